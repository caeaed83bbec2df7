/-
  What holds at a point, with facts on boxes at hand; the zero value of a map's elements.
-/
import Derived.Test.YteecbmgddacioaaGreatRse30
import Derived.Test.YteecbmgddacioaaGreatRse33
namespace Go.Rse
open Go Go.RowKit
section
variable {P : Program} {C : Ctx} {st : St} {Q : Exit → St → Prop} {ty : TypeId}
theorem Imp.ax {ts : List (Nat × AV)} {hs : List (Nat × Blk)} (h1 : impT st ts := by
  repeat' (first | exact True.intro | (refine And.intro ⟨_, rfl, ?_⟩ ?_; (first | exact LeV.refl _ | exact LeV.any _ | exact LeB.refl _ | (refine LeV.eq ?_; simp; done) | (refine LeV.eq ?_; congr 1; omega) | (refine LeV.eq ?_; dsimp only; congr 1; omega) | (refine LeV.eq (congrArg (AV.int _) ?_); omega) | exact LeV.nils _ | (refine LeV.eq ?_; congr 1 <;> assumption) | (refine LeV.eq ?_; assumption))))) (h2 : impH st hs := by
  repeat' (first | exact True.intro | (refine And.intro ⟨_, rfl, ?_⟩ ?_; (first | exact LeB.refl _ | exact LeB.row (by assumption) | (refine LeB.eq ?_; congr 1 <;> assumption) | (refine LeB.eq ?_; congr 1; omega) | (refine LeB.eq ?_; congr 1; simp only [cond_true, cond_false]; omega))))) : Imp C st ⟨ts, hs⟩ := Imp.of h1 h2
/-- Both ways of a late operation come to one state. -/
theorem ChM.ltJ {ops : Array Oper} {ms : List Nat} {hid : List Nat} {i m : Nat} {fs : List FactM} (e : Nat) (stJ : St) {o1 oe o2 : Oper} (hA : ∀ Q', Ex P C ops [] stJ Q' → Ex P C ops [o1, o2] (stAll st hid fs) Q') (hB : ∀ Q', Ex P C ops [] stJ Q' → Ex P C ops [o1, oe, o2] (stAll st hid (fs.filter fun f => !(f.i == e))) Q') (hR : Ex P C ops [] stJ Q)
    (hm : ms[i]? = some m := by exact rfl) (hl : ops.toList.drop i = [o1, o2] := by exact rfl) (hoe : ops[e]? = some oe := by exact rfl) (hg : (fs.all fun f => f.g.isEmpty) = true := by exact rfl)
    (hok : okFM st hid fs = true := by exact rfl) (hf : forcedL ops i e (bits ops.size m) = true := by kernel_rfl) : ChM P C ops ms st hid Q i fs := .late e hm hl hoe hg hok hf (hA Q hR) (hB Q hR)
/-- The parts of a sequence meet at one state. -/
theorem X.seqJ {x y : Code} (stJ : St) (h : X P C y stJ Q → X P C x st (thenQ (fun st' => X P C y st' Q) Q)) (hJ : X P C y stJ Q) : X P C (.seq x y) st Q := X.seq (h hJ)
theorem setAt_mid (A X B cs : List AV) (j : Nat) (h : j + cs.length ≤ X.length) : setAt (A ++ (X ++ B)) (A.length + j) cs = A ++ (setAt X j cs ++ B) := by
  unfold setAt
  have t1 : (A ++ (X ++ B)).take (A.length + j) = A ++ X.take j := by
    rw [List.take_length_add_append, List.take_append_of_le_length (by omega)]
  have t2 : (A ++ (X ++ B)).drop (A.length + j + cs.length) = X.drop (j + cs.length) ++ B := by
    rw [Nat.add_assoc, List.drop_length_add_append, List.drop_append_of_le_length h]
  rw [t1, t2]; simp only [List.append_assoc]
theorem flat_set {α : Type} {enc : α → List AV} {s : Nat} (he : ∀ x, (enc x).length = s) {l : List α} {i j : Nat} {x x' : α} {cs : List AV} (hx : l[i]? = some x) (hj : j + cs.length ≤ s) (hc : enc x' = setAt (enc x) j cs) :
    (l.set i x').flatMap enc = setAt (l.flatMap enc) (i * s + j) cs := by
  obtain ⟨hi, ex⟩ := List.getElem?_eq_some_iff.1 hx
  have hl : l.set i x' = l.take i ++ ([x'] ++ l.drop (i + 1)) := by
    rw [List.set_eq_take_append_cons_drop, if_pos hi]; simp
  have hl2 : l = l.take i ++ ([x] ++ l.drop (i + 1)) := by
    conv => lhs; rw [← List.take_append_drop i l, List.drop_eq_getElem_cons hi, ex]
    rfl
  have hA : ((l.take i).flatMap enc).length = i * s := by rw [flat_len _ (fun _ x _ => he x), List.length_take, Nat.min_eq_left (by omega)]
  have e1 : l.flatMap enc = (l.take i).flatMap enc ++ (enc x ++ (l.drop (i + 1)).flatMap enc) := by
    conv => lhs; rw [hl2]
    simp only [List.flatMap_append, List.flatMap_cons, List.flatMap_nil, List.append_nil]
  rw [hl, e1, ← hA, setAt_mid _ _ _ _ _ (by rw [he]; exact hj), ← hc]
  simp only [List.flatMap_append, List.flatMap_cons, List.flatMap_nil, List.append_nil]
theorem Rel.row_writeC {g : Gh} {a : Act} {w : World} (hr : Rel C st g a w) {α : Type} {enc : α → List AV} {l l' : List α} {E : TypeId} {k s p b : Nat} {cs : List AV} {vs : List Value} (hk : lk st.h k = some (.row enc l E s)) (he : ∀ x, (enc x).length = s) (hs0 : 0 < s)
    (hvs : RVL g.I noNames cs vs) (hone : ∀ u ∈ vs, u.oneCell' = true) (hle : p + cs.length ≤ l.length * s) (hb : blkOf (g.ρ k) = some b) (hnl : l'.length = l.length) (hfl : l'.flatMap enc = setAt (l.flatMap enc) p cs) :
    ∃ w', (storeCells ⟨b, p, none⟩ vs 0).run P w = .ok () w' ∧ Rel C (putH st k (.row enc l' E s)) g a w' := by
  obtain ⟨xs, hw, h1, h2, h3⟩ := hr.sat.blk k _ hk
  rcases hw.2 with ⟨hv, _⟩ | ⟨b', cap, cur, hv, hb0, hh, hnc, hcm, hcur, htk⟩
  · rw [hv] at hb; simp [blkOf] at hb
  · have : b' = b := by rw [hv] at hb; simpa [blkOf] using hb
    subst this
    have hvl : vs.length = cs.length := hvs.1
    have hcs : l.length * s ≤ cap * s := Nat.mul_le_mul_right s hnc
    have hil : p + cs.length ≤ l.length * s := hle
    have hst := run_storeCells_at (P := P) b' p E vs 0 cur w hh (by omega) hone
    refine ⟨_, hst, hr.modify (h3 b' (by rw [hv]; rfl)).1 (h3 b' (by rw [hv]; rfl)).2 grownBy_setRow (Nat.le_refl _) ?_⟩
    have hcl : cur.toList.length = cap * s := by simpa using hcur
    have hrow := flat_of_row h1 hw.1 h2 hs0
    have hset := hrow.setAt hvs p (by rw [flat_len l h1]; exact hil)
    rw [← hfl] at hset
    have hx : List.take (l.length * s) (cur.toList.take (p + 0) ++ vs ++ cur.toList.drop (p + 0 + vs.length)) = xs.take p ++ vs ++ xs.drop (p + vs.length) := by
      rw [← htk]
      apply List.ext_getElem?
      intro j
      simp only [Nat.add_zero, List.getElem?_take, List.getElem?_append, List.length_append, List.length_take, hcl, List.getElem?_drop]
      rw [show min p (cap * s) = p by omega, show min (l.length * s) (cap * s) = l.length * s by omega, show min p (l.length * s) = p by omega]
      by_cases q0 : j < l.length * s
      · rw [if_pos q0]
        by_cases q1 : j < p
        · simp [q1, show j < p + vs.length by omega, q0]
        · by_cases q2 : j < p + vs.length
          · simp [q1, q2]
          · simp [q2, show p + vs.length + (j - (p + vs.length)) < l.length * s by omega]
      · rw [if_neg q0]
        rw [if_neg (by omega)]
        rw [if_neg (by omega)]
    refine ⟨xs.take p ++ vs ++ xs.drop (p + vs.length), ⟨?_, .inr ⟨b', cap, (cur.toList.take (p + 0) ++ vs ++ cur.toList.drop (p + 0 + vs.length)).toArray, by rw [hv, hnl], hb0, setRow_heap w b' cur _ E _ hh, by rw [hnl]; exact hnc, hcm, by simp; omega, by rw [hnl]; simpa using hx⟩⟩, fun i x h => he x, row_of_flat (fun i x h => he x) hset, h3⟩
    rw [hnl]; have := hw.1; simp; omega
/-- A field of a row's element is written. -/
theorem M_store_rowF {α : Type} {enc : α → List AV} {l : List α} {E T : TypeId} {x y : Operand} {k s i j : Nat} {u : AV} {ag : Bool} {n : Nat} (x0 x' : α) (hx : ev st x = some (.ptr k s i j)) (hk : lk st.h k = some (.row enc l E s)) (h0 : l[i]? = some x0) (he : ∀ x, (enc x).length = s) (hs0 : 0 < s)
    (hy : ev st y = some u) (hu : enc x' = setAt (enc x0) j u.cl) (hn : u.cl.length = n) (hj : j + n ≤ s) (hp : okPart u = true) (hsc : scL u.cl = true) (hnm : AV.nm.nmL u.cl = true) (ht : tyOk P T ag n = true) : StepM P C (.store T x y) ty none st (putH st k (.row enc (l.set i x') E s)) := fun g a w pos af gd hr K hK => by
  obtain ⟨b, hb, e⟩ := inv_ptr (ev_rv hr hx)
  have hcl := cl_cells (ev_rv hr hy) hp
  have hvs : RVL g.I noNames u.cl (a.eval y).cells.toList := hcl.forget hnm
  have hone : ∀ v ∈ (a.eval y).cells.toList, v.oneCell' = true := fun v hv => by
    obtain ⟨q, hq⟩ := List.mem_iff_getElem?.1 hv
    have hlt : q < u.cl.length := by rw [← hcl.1]; exact (List.getElem?_eq_some_iff.1 hq).1
    exact (sc_cells (hcl.2 q _ v (List.getElem?_eq_getElem hlt) hq) (scL_get hsc (List.getElem?_eq_getElem hlt))).2
  have hi : i < l.length := (List.getElem?_eq_some_iff.1 h0).1
  have his : i * s + s ≤ l.length * s := by rw [← Nat.succ_mul]; exact Nat.mul_le_mul_right s hi
  obtain ⟨w', h1, h2⟩ := hr.row_writeC (P := P) (p := i * s + j) (l' := l.set i x') hk he hs0 hvs hone (by omega) hb (List.length_set ..) (flat_set he h0 (by omega) hu)
  simp only [wp1, execOp, Instr.storeAt, e, Instr.sureAddr, Sem.run_bind, Sem.run_pure, Result.andThen_ok, storeVar, run_sizeOf ht]
  have hsz : (a.eval y).cells.size = n := by have := hcl.1; rw [hn] at this; simpa using this
  rw [if_neg (by simp [hsz])]
  simp only [h1, Result.andThen_ok, upon1]
  exact hK _ _ _ h2
theorem tmZ_zero {T : TypeId} (h : (P.info? T).bind (·.zero) = some (.agg #[.int .i64 0, .int .i64 0])) : ∃ z i, P.info? T = some i ∧ i.zero = some z ∧ ∀ I, RV I noNames (.agg [.int .i64 0, .int .i64 0]) z := by
  cases hi : P.info? T with
  | none => rw [hi] at h; cases h
  | some i =>
    rw [hi] at h
    refine ⟨_, i, rfl, h, fun I => .agg _ [.int .i64 0, .int .i64 0] rfl fun j c v hc hv => ?_⟩
    rcases j with _ | _ | j
    · simp at hc hv; subst hc; subst hv; exact .int _ _
    · simp at hc hv; subst hc; subst hv; exact .int _ _
    · simp at hc
end
end Go.Rse
