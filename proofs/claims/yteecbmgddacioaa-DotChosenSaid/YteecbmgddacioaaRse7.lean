/-
  append; an empty row; letting a row or a box go: what it holds changes no more.
-/
import Derived.Test.YteecbmgddacioaaRse6
namespace Go.Rse
open Go Go.RowKit
set_option linter.unusedVariables false

/-- The type's row of the table. -/
def TyInfo (P : Program) (E : TypeId) (z : Value) (s bytes : Nat) : Prop := ∃ i, P.info? E = some i ∧ i.zero = some z ∧ i.size = s ∧ i.bytes = bytes ∧ z.cells.size = s
theorem tyInfo_of {P : Program} {E : TypeId} {z : Value} {s bytes : Nat} (h : (P.info? E).map (fun i => (i.zero, i.size, i.bytes)) = some (some z, s, bytes)) (hz : z.cells.size = s) : TyInfo P E z s bytes := by
  cases hi : P.info? E with
  | none => simp [hi] at h
  | some i => simp [hi] at h; exact ⟨i, hi, h.1, h.2.1, h.2.2, hz⟩

theorem run_append {P : Program} (w : World) {t ty E : TypeId} {z : Value} {s bytes : Nat} (ht : slOk P t E = true) (hi : TyInfo P E z s bytes) (hs : 0 < s) (hby : bytes ≤ 1024)
    {v : Value} {n : Nat} {xs : List Value} (hown : w.ownsRow 0 E s v n xs) {A : Option Addr} {m c : Nat} {news : List Value} (hl : news.length = m * s)
    (hsrc : m ≠ 0 → ∃ b o, A = some ⟨b, o, none⟩ ∧ ∀ j u, news[j]? = some u → w.cell? ⟨b, o + j, none⟩ = some u) (h1 : ∀ u ∈ news, u.oneCell' = true) (hnm : n + m ≤ 4294967296) :
    ∃ v' w', (Builtin.append_ #[t, t] ty #[v, .slice A m c]).run P w = .ok v' w' ∧ w'.ownsRow 0 E s v' (n + m) (xs ++ news) ∧ w.grownBy w' v.ownBlock ∧ (v'.ownBlock = v.ownBlock ∨ v'.ownBlock = some w.heap.size) := by
  obtain ⟨i, hi1, hi2, hi3, hi4, hi5⟩ := hi
  have hu := slOk_under ht
  have hmx : n + m ≤ maxLen := by simp only [maxLen]; omega
  have hbb : (n + m) * bytes ≤ 140737488355328 := by
    have : (n + m) * bytes ≤ 4294967296 * 1024 := Nat.mul_le_mul hnm hby
    omega
  by_cases hm : m = 0
  · subst hm
    have hn : news = [] := List.eq_nil_of_length_eq_zero (by simpa using hl)
    subst hn
    cases A with
    | none =>
      refine ⟨v, w, ?_, by simpa using hown, World.grownBy.refl w _, .inl rfl⟩
      rcases hown.2 with ⟨rfl, rfl⟩ | ⟨g, cap, cur, rfl, _, _, hnc, _⟩
      · simp [Builtin.append_, run_underlying hu, sizeOf, typeInfo, hi1, Builtin.lenOf, Builtin.firstCells]
      · simp [Builtin.append_, run_underlying hu, sizeOf, typeInfo, hi1, Builtin.lenOf, Builtin.firstCells, hnc, storeCells]
    | some ad =>
      obtain ⟨v', w', h, h2, h3, _, h5⟩ := run_append_own_at (P := P) w 0 t ty E i z s bytes hu hi1 hi2 hi3 hi4 hi5 hs v n xs hown ad 0 c [] (by simp) (fun j u hu => by simp at hu) (by simp) hmx hbb (Nat.zero_le _)
      exact ⟨v', w', h, h2, h3, h5⟩
  · obtain ⟨b, o, rfl, hc⟩ := hsrc hm
    obtain ⟨v', w', h, h2, h3, _, h5⟩ := run_append_own_at (P := P) w 0 t ty E i z s bytes hu hi1 hi2 hi3 hi4 hi5 hs v n xs hown ⟨b, o, none⟩ m c news hl (fun j u hu => by rw [add_plain']; exact hc j u hu) h1 hmx hbb (Nat.zero_le _)
    exact ⟨v', w', h, h2, h3, h5⟩

theorem blkOf_own {w : World} {E s : Nat} {v : Value} {n : Nat} {xs : List Value} (h : w.ownsRow 0 E s v n xs) : blkOf v = v.ownBlock := by
  rcases h.2 with ⟨rfl, _⟩ | ⟨g, cap, cur, rfl, _⟩ <;> rfl

def Gh.mv (g : Gh) (d k : Nat) (v : Value) (nb : Option Nat) : Gh := { ρ := fun n => if n = k then v else g.ρ n, I := g.I, O := fun b' => if nb = some b' then some (d, k) else g.O b' }

section
variable {P : Program} {C : Ctx} {st : St} {ty : TypeId}

/-- append, whatever the source. -/
theorem M_append_core {α : Type} {enc : α → List AV} {l l2 : List α} {g : Gh} {a : Act} {w : World} (hr : Rel C st g a w) {t E : TypeId} {z : Value} {s bytes k : Nat} {A : Option Addr} {c : Nat} {news : List Value} {dst : Option Tmp} {y : Operand} {pos : String} {af : Array Edge} {gd : Option (Nat × Bool)} {x : Operand}
    (hx : ev st x = some (.own k)) (hk : lk st.h k = some (.row enc l E s)) (ht : slOk P t E = true) (hi : TyInfo P E z s bytes) (hs : 0 < s) (hby : bytes ≤ 1024) (he : ∀ z, (enc z).length = s)
    (ey : a.eval y = .slice A l2.length c) (hsrc : l2 ≠ [] → ∃ b o, A = some ⟨b, o, none⟩ ∧ ∀ j u, news[j]? = some u → w.cell? ⟨b, o + j, none⟩ = some u) (hnews : RVL g.I noNames (l2.flatMap enc) news) (hsc : ∀ z, scL (enc z) = true)
    (hlen : l.length + l2.length ≤ 4294967296) (hd : dOk C.n dst = true) (K : Act → World → Prop)
    (hK : ∀ a' w' g', Rel C { t := consT dst (.own k) (clT k st.t), h := (k, .row enc (l ++ l2) E s) :: clH k st.h } g' a' w' → K a' w') :
    wp1 P { dst := dst, op := .call { callee := .builtin .append, args := #[x, y], argTypes := #[t, t] }, type := ty, pos := pos, after := af, guard := gd } a w K := by
  obtain ⟨xs, hw, h1, h2, h3⟩ := hr.sat.blk k _ hk
  have hs' : ∀ (i : Nat) x, l2[i]? = some x → (enc x).length = s := fun i x _ => he x
  have hnl : news.length = l2.length * s := by rw [hnews.1, flat_len l2 hs']
  have hone : ∀ u ∈ news, u.oneCell' = true := fun u hu => by
    obtain ⟨q, hq⟩ := List.mem_iff_getElem?.1 hu
    have hlt : q < (l2.flatMap enc).length := by rw [← hnews.1]; exact (List.getElem?_eq_some_iff.1 hq).1
    have hc := List.getElem?_eq_getElem hlt
    have hmem : (l2.flatMap enc)[q] ∈ l2.flatMap enc := List.getElem_mem hlt
    obtain ⟨p, hp, hpe⟩ := List.mem_flatMap.1 hmem
    obtain ⟨q', hq'⟩ := List.mem_iff_getElem?.1 hpe
    exact (sc_cells (hnews.2 q _ u hc hq) (scL_get (hsc p) hq')).2
  obtain ⟨v', w', hrun, hw', hg, hb⟩ := run_append (P := P) w (t := t) (ty := ty) ht hi hs hby hw (A := A) (m := l2.length) (c := c) hnl (fun hm => hsrc (fun e => hm (by simp [e]))) hone hlen
  have ek := inv_own (ev_rv hr hx)
  have e0 : (execOp a.eval { dst := dst, op := .call { callee := .builtin .append, args := #[x, y], argTypes := #[t, t] }, type := ty, pos := pos, after := af, guard := gd }).run P w = .ok (.value v') w' := by
    simp [execOp, resolve, invoke, builtin, ← ek, ey, hrun]
  unfold wp1
  rw [e0]
  refine hK _ w' (g.mv C.d k v' v'.ownBlock) ?_
  have hold : ∀ b, v'.ownBlock = some b → b < w.heap.size → g.O b = some (C.d, k) ∧ C.okb b := fun b hbv hlt => by
    rcases hb with e | e
    · rw [e] at hbv
      exact h3 b (by rw [blkOf_own hw]; exact hbv)
    · rw [e] at hbv; injection hbv with hbv; omega
  refine hr.modifyR (g' := g.mv C.d k v' v'.ownBlock) (bo := (g.ρ k).ownBlock) rfl (fun n hn => by simp [Gh.mv, hn]) (fun b hlt => ?_) (fun b hbo => h3 b (by rw [blkOf_own hw]; exact hbo)) hg (fun b k' hO => ?_) hd ?_ ?_
  · simp only [Gh.mv]
    split
    · rename_i e; exact (hold b e hlt).1.symm
    · rfl
  · simp only [Gh.mv] at hO
    split at hO
    · rename_i e
      exact ownsRow_lt hw' (by rw [blkOf_own hw']; exact e)
    · exact Nat.lt_of_lt_of_le (hr.sat.ob b k' hO) hg.size
  · rcases hw'.2 with ⟨e, _⟩ | ⟨b, cap, cur, e, _⟩ <;> subst e <;> exact .own k _ _ _ (by simp [Gh.mv])
  · have hl' : ∀ (i : Nat) x, (l ++ l2)[i]? = some x → (enc x).length = s := fun i x _ => he x
    refine ⟨xs ++ news, ?_, hl', ?_, fun b hb' => ?_⟩
    · have e1 : (g.mv C.d k v' v'.ownBlock).ρ k = v' := by simp [Gh.mv]
      rw [e1, List.length_append]; exact hw'
    · intro i p j cc v hp hc hv
      have hjs : j < s := by rw [← he p]; exact (List.getElem?_eq_some_iff.1 hc).1
      by_cases hil : i < l.length
      · rw [List.getElem?_append_left hil] at hp
        have hlt : i * s + j < l.length * s := by
          have h2 : (i + 1) * s ≤ l.length * s := Nat.mul_le_mul_right s hil
          have h3 : (i + 1) * s = i * s + s := Nat.succ_mul i s
          omega
        rw [List.getElem?_append_left (by rw [hw.1]; exact hlt)] at hv
        exact h2 i p j cc v hp hc hv
      · rw [List.getElem?_append_right (by omega)] at hp
        have e2 : i * s + j = l.length * s + ((i - l.length) * s + j) := by
          have : i = l.length + (i - l.length) := by omega
          rw [this, Nat.add_mul]; simp; omega
        rw [e2, List.getElem?_append_right (by rw [hw.1]; omega), hw.1, show l.length * s + ((i - l.length) * s + j) - l.length * s = (i - l.length) * s + j by omega] at hv
        exact row_of_flat hs' hnews _ p j cc v hp hc hv
    · have e1 : (g.mv C.d k v' v'.ownBlock).ρ k = v' := by simp [Gh.mv]
      rw [e1, blkOf_own hw'] at hb'
      refine ⟨by simp [Gh.mv, hb'], ?_⟩
      by_cases hlt : b < w.heap.size
      · exact (hold b hb' hlt).2
      · exact .inl (Nat.le_trans hr.ext.size (by omega))

/-- append(out, src...) where src is a row of the function's own (a written-out list, a callee's result). -/
theorem M_append_own {α : Type} {enc : α → List AV} {l l2 : List α} {t E E2 : TypeId} {z : Value} {s s2 bytes k k2 : Nat} {dst : Option Tmp} {x y : Operand}
    (hx : ev st x = some (.own k)) (hk : lk st.h k = some (.row enc l E s)) (hy : ev st y = some (.own k2)) (hk2 : lk st.h k2 = some (.row enc l2 E2 s2)) (ht : slOk P t E = true) (hi : TyInfo P E z s bytes) (hs : 0 < s) (hby : bytes ≤ 1024) (he : ∀ z, (enc z).length = s) (hsc : ∀ z, scL (enc z) = true)
    (hlen : l.length + l2.length ≤ 4294967296) (hd : dOk C.n dst = true) :
    StepM P C (.call { callee := .builtin .append, args := #[x, y], argTypes := #[t, t] }) ty dst st { t := consT dst (.own k) (clT k st.t), h := (k, .row enc (l ++ l2) E s) :: clH k st.h } := fun g a w pos af gd hr K hK => by
  obtain ⟨xs, hw, h1, h2, h3⟩ := hr.sat.blk k2 _ hk2
  have ek := inv_own (ev_rv hr hy)
  have hs2 : l2 ≠ [] → s2 = s := fun hne => by
    cases l2 with
    | nil => exact absurd rfl hne
    | cons p r => exact (h1 0 p (by simp)).symm.trans (he p)
  have hlx : xs.length = l2.length * s := by
    cases l2 with
    | nil => simpa using hw.1
    | cons p r => rw [hw.1, hs2 (by simp)]
  have hsl : ∀ (i : Nat) x, l2[i]? = some x → (enc x).length = s := fun i x _ => he x
  have hRV : RVL g.I noNames (l2.flatMap enc) xs := by
    refine ⟨by rw [hlx, flat_len l2 hsl], fun j c v hc hv => ?_⟩
    have hj : j < l2.length * s := by rw [← flat_len l2 hsl]; exact (List.getElem?_eq_some_iff.1 hc).1
    have hq : j / s < l2.length := Nat.div_lt_of_lt_mul (by rw [Nat.mul_comm]; exact hj)
    have hdm : j / s * s + j % s = j := by rw [Nat.mul_comm]; exact Nat.div_add_mod j s
    have hr' : j % s < s := Nat.mod_lt _ hs
    have hp := List.getElem?_eq_getElem hq
    have hc' : (enc l2[j / s])[j % s]? = some c := by
      rw [← flat_get l2 hsl (j / s) _ (j % s) hp hr', hdm]; exact hc
    exact h2 (j / s) _ (j % s) c v hp hc' (by rw [hs2 (fun e => by subst e; simp at hq), hdm]; exact hv)
  rcases hw.2 with ⟨e, h0⟩ | ⟨b, cap, cur, e, _, hh, hnc, hcm, hcur, htk⟩
  · rw [ek] at e
    have hn0 : l2 = [] := List.eq_nil_of_length_eq_zero h0
    refine M_append_core hr hx hk ht hi hs hby he (A := none) (c := 0) (news := xs) (by rw [e, h0]) (fun hne => absurd hn0 hne) hRV hsc hlen hd K hK
  · rw [ek] at e
    refine M_append_core hr hx hk ht hi hs hby he (A := some ⟨b, 0, none⟩) (c := cap) (news := xs) e (fun hne => ⟨b, 0, rfl, fun j u hu => ?_⟩) hRV hsc hlen hd K hK
    have e2 := hs2 hne
    subst e2
    have hj : j < l2.length * s2 := by rw [← hlx]; exact (List.getElem?_eq_some_iff.1 hu).1
    rw [← htk, List.getElem?_take, if_pos hj] at hu
    simp only [World.cell?, hh, Nat.zero_add]
    simpa using hu

/-- append(out, src...) where src is known for good. -/
theorem M_append_sl {α : Type} {enc : α → List AV} {l l2 : List α} {t E : TypeId} {z : Value} {s bytes k : Nat} {dst : Option Tmp} {x y : Operand}
    (hx : ev st x = some (.own k)) (hk : lk st.h k = some (.row enc l E s)) (hy : ev st y = some (.sl enc l2)) (ht : slOk P t E = true) (hi : TyInfo P E z s bytes) (hs : 0 < s) (hby : bytes ≤ 1024) (he : ∀ z, (enc z).length = s) (hsc : ∀ z, scL (enc z) = true)
    (hlen : l.length + l2.length ≤ 4294967296) (hd : dOk C.n dst = true) :
    StepM P C (.call { callee := .builtin .append, args := #[x, y], argTypes := #[t, t] }) ty dst st { t := consT dst (.own k) (clT k st.t), h := (k, .row enc (l ++ l2) E s) :: clH k st.h } := fun g a w pos af gd hr K hK => by
  obtain ⟨A, b, o, s', c, vs, e, hA, _, _, h1, h2, h3⟩ := inv_sl (ev_rv hr hy)
  have hs2 : l2 ≠ [] → s' = s := fun hne => by
    cases l2 with
    | nil => exact absurd rfl hne
    | cons p r => exact (h1 0 p (by simp)).symm.trans (he p)
  have hsl : ∀ (i : Nat) x, l2[i]? = some x → (enc x).length = s := fun i x _ => he x
  let news := (List.range (l2.length * s)).map fun q => vs (q / s) (q % s)
  have hget : ∀ j u, news[j]? = some u → j < l2.length * s ∧ u = vs (j / s) (j % s) := fun j u hu => by
    have hj : j < l2.length * s := by
      have := (List.getElem?_eq_some_iff.1 hu).1; simpa [news] using this
    simp [news, List.getElem?_range hj] at hu
    exact ⟨hj, hu.symm⟩
  refine M_append_core hr hx hk ht hi hs hby he (A := A) (c := c) (news := news) e (fun hne => ⟨b, o, hA hne, fun j u hu => ?_⟩) ⟨by simp [news, flat_len l2 hsl], fun j c v hc hv => ?_⟩ hsc hlen hd K hK
  · obtain ⟨hj, rfl⟩ := hget j u hu
    have hq : j / s < l2.length := Nat.div_lt_of_lt_mul (by rw [Nat.mul_comm]; exact hj)
    have hdm : j / s * s + j % s = j := by rw [Nat.mul_comm]; exact Nat.div_add_mod j s
    have e2 := hs2 hne
    subst e2
    have := h2 (j / s') _ (j % s') (List.getElem?_eq_getElem hq) (Nat.mod_lt _ hs)
    have h4 := (hr.sat.im _ _ _ this).1
    rw [Nat.add_assoc, hdm] at h4
    exact h4
  · obtain ⟨hj, rfl⟩ := hget j v hv
    have hq : j / s < l2.length := Nat.div_lt_of_lt_mul (by rw [Nat.mul_comm]; exact hj)
    have hdm : j / s * s + j % s = j := by rw [Nat.mul_comm]; exact Nat.div_add_mod j s
    have hr' : j % s < s := Nat.mod_lt _ hs
    have hp := List.getElem?_eq_getElem hq
    refine h3 (j / s) _ (j % s) c hp ?_
    rw [← flat_get l2 hsl (j / s) _ (j % s) hp hr', hdm]; exact hc
end
end Go.Rse
