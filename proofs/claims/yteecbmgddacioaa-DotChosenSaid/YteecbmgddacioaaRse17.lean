/-
  Rows of one's own written to, cut and cleared; parts of lists that are known for good.
-/
import Derived.Test.YteecbmgddacioaaRse16
namespace Go.Rse
open Go Go.RowKit
set_option linter.unusedVariables false

theorem flat_of_row {I : Im} {α : Type} {enc : α → List AV} {l : List α} {s : Nat} {xs : List Value} (hs : ∀ (i : Nat) x, l[i]? = some x → (enc x).length = s) (hl : xs.length = l.length * s)
    (h : ∀ (i : Nat) x (j : Nat) c v, l[i]? = some x → (enc x)[j]? = some c → xs[i * s + j]? = some v → RV I noNames c v) (hs0 : 0 < s) : RVL I noNames (l.flatMap enc) xs := by
  refine ⟨by rw [hl, flat_len l hs], fun j c v hc hv => ?_⟩
  have hj : j < l.length * s := by rw [← flat_len l hs]; exact (List.getElem?_eq_some_iff.1 hc).1
  have hq : j / s < l.length := Nat.div_lt_of_lt_mul (by rw [Nat.mul_comm]; exact hj)
  have hdm : j / s * s + j % s = j := by rw [Nat.mul_comm]; exact Nat.div_add_mod j s
  have hr' : j % s < s := Nat.mod_lt _ hs0
  have hp := List.getElem?_eq_getElem hq
  have hc' : (enc l[j / s])[j % s]? = some c := by
    rw [← flat_get l hs (j / s) _ (j % s) hp hr', hdm]; exact hc
  exact h (j / s) _ (j % s) c v hp hc' (by rw [hdm]; exact hv)

theorem flat_splice {α : Type} {enc : α → List AV} {s : Nat} (he : ∀ x, (enc x).length = s) (l l2 : List α) (i : Nat) (hle : i + l2.length ≤ l.length) :
    (l.take i ++ l2 ++ l.drop (i + l2.length)).flatMap enc = setAt (l.flatMap enc) (i * s) (l2.flatMap enc) := by
  have h1 : (l.take i).flatMap enc = (l.flatMap enc).take (i * s) := by
    have hlen : ((l.take i).flatMap enc).length = i * s := by rw [flat_len _ (fun _ x _ => he x), List.length_take, Nat.min_eq_left (by omega)]
    have : l.flatMap enc = (l.take i).flatMap enc ++ (l.drop i).flatMap enc := by rw [← List.flatMap_append, List.take_append_drop]
    rw [this, List.take_append_of_le_length (Nat.le_of_eq hlen.symm), List.take_of_length_le (Nat.le_of_eq hlen)]
  have h2 : ∀ m, m ≤ l.length → (l.drop m).flatMap enc = (l.flatMap enc).drop (m * s) := fun m hm => by
    have hlen : ((l.take m).flatMap enc).length = m * s := by rw [flat_len _ (fun _ x _ => he x), List.length_take, Nat.min_eq_left hm]
    have : l.flatMap enc = (l.take m).flatMap enc ++ (l.drop m).flatMap enc := by rw [← List.flatMap_append, List.take_append_drop]
    rw [this, List.drop_append_of_le_length (Nat.le_of_eq hlen.symm), List.drop_of_length_le (Nat.le_of_eq hlen)]
    rfl
  simp only [List.flatMap_append, setAt, h1]
  rw [h2 _ hle, flat_len l2 (fun _ x _ => he x), Nat.add_mul]

section
variable {P : Program} {C : Ctx} {st : St} {ty : TypeId}

theorem Rel.row_write {g : Gh} {a : Act} {w : World} (hr : Rel C st g a w) {α : Type} {enc : α → List AV} {l l2 : List α} {E : TypeId} {k s i b : Nat} {vs : List Value} (hk : lk st.h k = some (.row enc l E s)) (he : ∀ x, (enc x).length = s) (hs0 : 0 < s)
    (hvs : RVL g.I noNames (l2.flatMap enc) vs) (hone : ∀ u ∈ vs, u.oneCell' = true) (hle : i + l2.length ≤ l.length) (hb : blkOf (g.ρ k) = some b) :
    ∃ w', (storeCells ⟨b, i * s, none⟩ vs 0).run P w = .ok () w' ∧ Rel C (putH st k (.row enc (l.take i ++ l2 ++ l.drop (i + l2.length)) E s)) g a w' := by
  obtain ⟨xs, hw, h1, h2, h3⟩ := hr.sat.blk k _ hk
  rcases hw.2 with ⟨hv, _⟩ | ⟨b', cap, cur, hv, hb0, hh, hnc, hcm, hcur, htk⟩
  · rw [hv] at hb; simp [blkOf] at hb
  · have : b' = b := by rw [hv] at hb; simpa [blkOf] using hb
    subst this
    have hvl : vs.length = l2.length * s := by rw [hvs.1, flat_len l2 (fun _ x _ => he x)]
    have hcs : l.length * s ≤ cap * s := Nat.mul_le_mul_right s hnc
    have hil : i * s + l2.length * s ≤ l.length * s := by rw [← Nat.add_mul]; exact Nat.mul_le_mul_right s hle
    have hst := run_storeCells_at (P := P) b' (i * s) E vs 0 cur w hh (by omega) hone
    have hnl : (l.take i ++ l2 ++ l.drop (i + l2.length)).length = l.length := by simp; omega
    refine ⟨_, hst, hr.modify (h3 b' (by rw [hv]; rfl)).1 (h3 b' (by rw [hv]; rfl)).2 grownBy_setRow ?_⟩
    have hcl : cur.toList.length = cap * s := by simpa using hcur
    have hrow := flat_of_row h1 hw.1 h2 hs0
    have hset := hrow.setAt hvs (i * s) (by rw [flat_len l h1, ← hvs.1, hvl]; exact hil)
    rw [← flat_splice he l l2 i hle] at hset
    have hx : List.take (l.length * s) (cur.toList.take (i * s + 0) ++ vs ++ cur.toList.drop (i * s + 0 + vs.length)) = xs.take (i * s) ++ vs ++ xs.drop (i * s + vs.length) := by
      rw [← htk]
      apply List.ext_getElem?
      intro j
      simp only [Nat.add_zero, List.getElem?_take, List.getElem?_append, List.length_append, List.length_take, hcl, List.getElem?_drop]
      rw [show min (i * s) (cap * s) = i * s by omega, show min (l.length * s) (cap * s) = l.length * s by omega, show min (i * s) (l.length * s) = i * s by omega]
      by_cases q0 : j < l.length * s
      · rw [if_pos q0]
        by_cases q1 : j < i * s
        · simp [q1, show j < i * s + vs.length by omega, q0]
        · by_cases q2 : j < i * s + vs.length
          · simp [q1, q2]
          · simp [q2, show i * s + vs.length + (j - (i * s + vs.length)) < l.length * s by omega]
      · rw [if_neg q0]
        rw [if_neg (by omega)]
        rw [if_neg (by omega)]
    refine ⟨xs.take (i * s) ++ vs ++ xs.drop (i * s + vs.length), ⟨?_, .inr ⟨b', cap, (cur.toList.take (i * s + 0) ++ vs ++ cur.toList.drop (i * s + 0 + vs.length)).toArray, by rw [hv, hnl], hb0, setRow_heap w b' cur _ E _ hh, by rw [hnl]; exact hnc, hcm, by simp; omega, by rw [hnl]; simpa using hx⟩⟩, fun i x h => he x, row_of_flat (fun i x h => he x) hset, h3⟩
    rw [hnl]; have := hw.1; simp; omega

/-- An element of a row is written. -/
theorem M_store_row {α : Type} {enc : α → List AV} {l : List α} {E T : TypeId} {x y : Operand} {k s i : Nat} {u : AV} {ag : Bool} (x' : α) (hx : ev st x = some (.ptr k s i 0)) (hk : lk st.h k = some (.row enc l E s)) (he : ∀ x, (enc x).length = s) (hs0 : 0 < s)
    (hi : i < l.length) (hy : ev st y = some u) (hu : u.cl = enc x') (hp : okPart u = true) (hsc : scL (enc x') = true) (hnm : AV.nm.nmL (enc x') = true) (ht : tyOk P T ag s = true) : StepM P C (.store T x y) ty none st (putH st k (.row enc (l.set i x') E s)) := fun g a w pos af gd hr K hK => by
  obtain ⟨b, hb, e⟩ := inv_ptr (ev_rv hr hx)
  have hcl := cl_cells (ev_rv hr hy) hp
  rw [hu] at hcl
  have hvs : RVL g.I noNames ([x'].flatMap enc) (a.eval y).cells.toList := by simpa using hcl.forget hnm
  have hone : ∀ v ∈ (a.eval y).cells.toList, v.oneCell' = true := fun v hv => by
    obtain ⟨q, hq⟩ := List.mem_iff_getElem?.1 hv
    have hlt : q < (enc x').length := by rw [← hcl.1]; exact (List.getElem?_eq_some_iff.1 hq).1
    exact (sc_cells (hcl.2 q _ v (List.getElem?_eq_getElem hlt) hq) (scL_get hsc (List.getElem?_eq_getElem hlt))).2
  obtain ⟨w', h1, h2⟩ := hr.row_write (P := P) (i := i) (l2 := [x']) hk he hs0 hvs hone (by simp; omega) hb
  have hl : l.take i ++ [x'] ++ l.drop (i + [x'].length) = l.set i x' := by
    rw [List.set_eq_take_append_cons_drop, if_pos hi]; simp
  rw [hl] at h2
  simp only [wp1, execOp, Instr.storeAt, e, Instr.sureAddr, Sem.run_bind, Sem.run_pure, Result.andThen_ok, storeVar, run_sizeOf ht, Nat.add_zero]
  have hsz : (a.eval y).cells.size = s := by have := hcl.1; rw [he] at this; simpa using this
  rw [if_neg (by simp [hsz])]
  simp only [h1, Result.andThen_ok, upon1]
  exact hK _ _ _ h2

/-- The tail of a row. -/
theorem P_slice_tail {α : Type} {enc : α → List AV} {l : List α} {E t : TypeId} {x y : Operand} {k s : Nat} {kk : IntKind} {i : Int} {ag : Bool} (hx : ev st x = some (.own k)) (hk : lk st.h k = some (.row enc l E s)) (hy : ev st y = some (.int kk i)) (ht : slOk P t E = true) (hE : tyOk P E ag s = true)
    (h0 : 0 ≤ i) (h1 : i ≤ l.length) : Pur P C (.slice t x (some y) none none) ty st (.sub k s i.toNat (l.length - i.toNat)) := fun g a w dst pos af gd hr => by
  obtain ⟨xs, hw, _⟩ := hr.sat.blk k _ hk
  have ek := inv_own (ev_rv hr hx)
  have ey := inv_int (ev_rv hr hy)
  have key : ∀ (A : Option Addr) (c : Nat), g.ρ k = .slice A l.length c → (l.length ≠ 0 → ∃ b, A = some ⟨b, 0, none⟩) → l.length ≤ c →
      ∃ v, (execOp a.eval { dst := dst, op := .slice t x (some y) none none, type := ty, pos := pos, after := af, guard := gd }).run P w = .ok (.value v) w ∧ RV g.I g.ρ (.sub k s i.toNat (l.length - i.toNat)) v := fun A c hv hA hc => by
    refine ⟨.slice (if c = i.toNat then A else A.map (·.add (i.toNat * s))) (l.length - i.toNat) (c - i.toNat), ?_, .sub k s _ _ _ _ (fun hm => ?_)⟩
    · rw [hv] at ek
      have : (Instr.sliceBounds true l.length c (some (.int kk i)) none none).run P w = .ok (i.toNat, l.length, c) w := by
        simp [Instr.sliceBounds, Instr.sliceBound, asIntOf, h0, h1]
      simp [execOp, Instr.sliceAt, Instr.slice, run_underlying (slOk_under ht), ← ek, ey, this, run_sizeOf hE]
    · obtain ⟨b, hb⟩ := hA (by omega)
      refine ⟨b, by rw [hv, hb]; rfl, ?_⟩
      rw [if_neg (by omega), hb]
      simp [add_plain']
  rcases hw.2 with ⟨hv, h0'⟩ | ⟨b, cap, cur, hv, _, _, hnc, _⟩
  · exact key none 0 (by rw [hv, h0']) (fun h => absurd h0' h) (by omega)
  · exact key _ cap hv (fun _ => ⟨b, rfl⟩) hnc

/-- The row's tail is cleared. -/
theorem M_clear {α : Type} {enc : α → List AV} {l : List α} {E t : TypeId} {x : Operand} {k s i m : Nat} {z : Value} {bytes : Nat} (z' : α) (hx : ev st x = some (.sub k s i m)) (hk : lk st.h k = some (.row enc l E s)) (he : ∀ x, (enc x).length = s) (hs0 : 0 < s) (ht : slOk P t E = true) (hi : TyInfo P E z s bytes)
    (hz : cvL z.cells.toList = some (enc z')) (hsc : scL (enc z') = true) (hnm : AV.nm.nmL (enc z') = true) (him : i + m = l.length) : StepM P C (.call { callee := .builtin .clear, args := #[x], argTypes := #[t] }) ty none st (putH st k (.row enc (l.take i ++ List.replicate m z') E s)) := fun g a w pos af gd hr K hK => by
  have hxv := ev_rv hr hx
  generalize ev' : a.eval x = v at hxv
  cases hxv with
  | sub _ _ _ _ c A h =>
  by_cases hm : m = 0
  · subst hm
    have e0 : (execOp a.eval { dst := none, op := .call { callee := .builtin .clear, args := #[x], argTypes := #[t] }, type := ty, pos := pos, after := af, guard := gd }).run P w = .ok (.value (.tuple #[])) w := by
      cases A <;> simp [execOp, resolve, invoke, builtin, Builtin.clear_, ev', run_underlying (slOk_under ht)]
    unfold wp1
    rw [e0]
    refine hK _ w g ?_
    have e1 : l.take i ++ List.replicate 0 z' = l := by simp; rw [List.take_of_length_le (by omega)]
    rw [e1]
    refine ⟨hr.size, hr.defers, hr.tmps, ⟨hr.sat.im, hr.sat.ob, fun k' B hB => ?_⟩, hr.ext⟩
    simp only [putH, lk_cons] at hB
    cases hb : k.beq k' <;> simp [hb] at hB
    · exact hr.sat.blk k' B hB
    · have : k = k' := by simpa using hb
      subst this; subst hB; exact hr.sat.blk k _ hk
  · obtain ⟨b, hb, e⟩ := h hm
    obtain ⟨inf, i1, i2, i3, i4, i5⟩ := hi
    obtain ⟨hzl, hzv⟩ := cvL_rv (I := g.I) (ρ := noNames) hz
    have hzc : ∀ (q : Nat) (u : Value), (Builtin.zeroCells z.cells m).toList[q]? = some u → z.cells.toList[q % s]? = some u := fun q u hu => by
      have hq : q < (Builtin.zeroCells z.cells m).toList.length := (List.getElem?_eq_some_iff.1 hu).1
      have hq' : q < m * s := by have := size_zeroCells z.cells m; rw [i5] at this; rw [← this]; simpa using hq
      have hqs : q % s < z.cells.size := by rw [i5]; exact Nat.mod_lt _ hs0
      simp only [Builtin.zeroCells, Array.toList_map, Array.toList_range, List.getElem?_map, List.getElem?_range hq', Option.map_some, i5] at hu
      injection hu with hu
      rw [← hu]
      simp [hqs]
    have hvs : RVL g.I noNames ((List.replicate m z').flatMap enc) (Builtin.zeroCells z.cells m).toList := by
      refine flat_of_row (fun _ x _ => he x) (by rw [Array.length_toList, size_zeroCells, i5]; simp) (fun q x j c v hx hc hv => ?_) hs0
      have hxz : x = z' := (List.mem_replicate.1 (List.mem_of_getElem? hx)).2
      subst hxz
      have hjs : j < s := by rw [← he x]; exact (List.getElem?_eq_some_iff.1 hc).1
      have := hzc _ v hv
      rw [Nat.add_comm, Nat.add_mul_mod_self_right, Nat.mod_eq_of_lt hjs] at this
      exact hzv j c v hc this
    have hone : ∀ u ∈ (Builtin.zeroCells z.cells m).toList, u.oneCell' = true := fun u hu => by
      obtain ⟨q, hq⟩ := List.mem_iff_getElem?.1 hu
      have hj := hzc q u hq
      have hlt : q % s < (enc z').length := by rw [← hzl]; exact (List.getElem?_eq_some_iff.1 hj).1
      exact (sc_cells (hzv _ _ u (List.getElem?_eq_getElem hlt) hj) (scL_get hsc (List.getElem?_eq_getElem hlt))).2
    obtain ⟨w', h1, h2⟩ := hr.row_write (P := P) (i := i) (l2 := List.replicate m z') hk he hs0 hvs hone (by simp; omega) hb
    have e2 : l.take i ++ List.replicate m z' ++ l.drop (i + (List.replicate m z').length) = l.take i ++ List.replicate m z' := by
      simp; omega
    rw [e2] at h2
    have e0 : (execOp a.eval { dst := none, op := .call { callee := .builtin .clear, args := #[x], argTypes := #[t] }, type := ty, pos := pos, after := af, guard := gd }).run P w = .ok (.value (.tuple #[])) w' := by
      obtain ⟨m', rfl⟩ : ∃ m', m = m' + 1 := ⟨m - 1, by omega⟩
      have h1' := h1
      simp [execOp, resolve, invoke, builtin, Builtin.clear_, ev', e, run_underlying (slOk_under ht), zeroValue, typeInfo, i1, i2, h1']
    unfold wp1
    rw [e0]
    exact hK _ w' g h2
end
end Go.Rse
