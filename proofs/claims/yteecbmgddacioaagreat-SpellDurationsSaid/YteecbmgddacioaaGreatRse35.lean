/-
  Copies into a row of one's own, its head as a slice, functions held against nil, operations behind a guard that is shut.
-/
import Derived.Test.YteecbmgddacioaaGreatRse34
import Derived.Laws.CopyRow
namespace Go.Rse
open Go Go.RowKit
set_option linter.unusedVariables false
set_option linter.unusedSimpArgs false
section
variable {P : Program} {C : Ctx} {st : St} {ty : TypeId} {Q : Exit → St → Prop}
theorem Rel.same_row {g : Gh} {a : Act} {w : World} (hr : Rel C st g a w) {k : Nat} {B : Blk} (hk : lk st.h k = some B) : Rel C (putH st k B) g a w := by
  refine ⟨hr.size, hr.defers, hr.tmps, ⟨hr.sat.im, hr.sat.ob, fun k' B' hB => ?_⟩, hr.ext⟩
  simp only [putH, lk_cons] at hB
  cases hb : k.beq k' <;> simp [hb] at hB
  · exact hr.sat.blk k' B' hB
  · have : k = k' := by simpa using hb
    subst this; subst hB; exact hr.sat.blk k _ hk
theorem M_copy_core {α : Type} {enc : α → List AV} {l l2 : List α} {g : Gh} {a : Act} {w : World} (hr : Rel C st g a w) {t t2 E : TypeId} {s i m m' k c c' : Nat} {A A' : Option Addr} {news : List Value} {dst : Option Tmp} {x y : Operand} {pos : String} {af : Array Edge} {gd : Option (Nat × Bool)} {ag : Bool}
    (ex : a.eval x = .slice A m c) (hA : m ≠ 0 → ∃ b, blkOf (g.ρ k) = some b ∧ A = some ⟨b, i * s, none⟩) (hk : lk st.h k = some (.row enc l E s)) (he : ∀ z, (enc z).length = s) (hs0 : 0 < s) (ht : slOk P t E = true) (hE : tyOk P E ag s = true)
    (ey : a.eval y = .slice A' m' c') (hl2 : l2.length = Nat.min m' m) (hsrc : l2 ≠ [] → ∃ a0, A' = some a0 ∧ ∀ j u, news[j]? = some u → w.cell? (a0.add j) = some u) (hnews : RVL g.I noNames (l2.flatMap enc) news) (hsc : ∀ z, scL (enc z) = true) (him : i + m ≤ l.length)
    (hd : dOk C.n dst = true) (K : Act → World → Prop) (hK : ∀ a', Rel C (putT (putH st k (.row enc (l.take i ++ l2 ++ l.drop (i + l2.length)) E s)) dst (.int .i64 (l2.length : Int))) g a' w → K a' w)
    (hK2 : ∀ a' w', Rel C (putT (putH st k (.row enc (l.take i ++ l2 ++ l.drop (i + l2.length)) E s)) dst (.int .i64 (l2.length : Int))) g a' w' → K a' w') :
    wp1 P { dst := dst, op := .call { callee := .builtin .copy, args := #[x, y], argTypes := #[t, t2] }, type := ty, pos := pos, after := af, guard := gd } a w K := by
  have hput : ∀ {w' : World} {B : Blk}, Rel C (putH st k B) g a w' → Rel C (putT (putH st k B) dst (.int .i64 (l2.length : Int))) g (a.put dst (goInt l2.length)) w' := fun h =>
    h.add (nk := none) (d := dst) (Add.refl _ g _) (fun k h => by simp at h) (fun t ht => by subst ht; simpa [dOk] using hd) (.int _ _) h.sat.im h.sat.ob
  by_cases hne : l2 = []
  · have hmin : Nat.min m' m = 0 := by rw [← hl2, hne]; rfl
    have e0 : (execOp a.eval { dst := dst, op := .call { callee := .builtin .copy, args := #[x, y], argTypes := #[t, t2] }, type := ty, pos := pos, after := af, guard := gd }).run P w = .ok (.value (goInt 0)) w := by
      have hl : ∀ a0 : Addr, (loadCells a0 0).run P w = .ok #[] w := fun a0 => by
        exact run_loadCells_list (P := P) w a0 [] (fun j v h => by simp at h)
      cases A <;> cases A' <;> simp [execOp, resolve, invoke, builtin, Builtin.copy_, ex, ey, run_underlying (slOk_under ht), Builtin.lenOf, Builtin.firstCells, run_sizeOf hE, hmin, storeCells, hl, Nat.zero_mul]
    unfold wp1
    rw [e0]
    have h1 := hr.same_row hk
    have e1 : l.take i ++ l2 ++ l.drop (i + l2.length) = l := by rw [hne]; simp
    have hz : (goInt 0) = goInt l2.length := by rw [hne]; rfl
    rw [hz]
    refine hK _ ?_
    rw [e1]
    exact hput h1
  · have hpos : 0 < l2.length := List.length_pos_iff.2 hne
    have hmin : Nat.min m' m = l2.length := hl2.symm
    have hm : m ≠ 0 := fun e => by rw [e] at hmin; have : Nat.min m' 0 = 0 := Nat.min_zero _; omega
    have hle : l2.length ≤ m := by rw [← hmin]; exact Nat.min_le_right _ _
    obtain ⟨b, hb, rfl⟩ := hA hm
    obtain ⟨a0, rfl, hc⟩ := hsrc hne
    have hnl : news.length = l2.length * s := by rw [hnews.1, flat_len l2 (fun _ x _ => he x)]
    have hone : ∀ u ∈ news, u.oneCell' = true := fun u hu => by
      obtain ⟨q, hq⟩ := List.mem_iff_getElem?.1 hu
      have hlt : q < (l2.flatMap enc).length := by rw [← hnews.1]; exact (List.getElem?_eq_some_iff.1 hq).1
      have hc := List.getElem?_eq_getElem hlt
      have hmem : (l2.flatMap enc)[q] ∈ l2.flatMap enc := List.getElem_mem hlt
      obtain ⟨p, hp, hpe⟩ := List.mem_flatMap.1 hmem
      obtain ⟨q', hq'⟩ := List.mem_iff_getElem?.1 hpe
      exact (sc_cells (hnews.2 q _ u hc hq) (scL_get (hsc p) hq')).2
    obtain ⟨w', h1, h2⟩ := hr.row_write (P := P) (i := i) (l2 := l2) hk he hs0 hnews hone (by omega) hb
    have hl := run_loadCells_list (P := P) w a0 news hc
    rw [hnl] at hl
    have e0 : (execOp a.eval { dst := dst, op := .call { callee := .builtin .copy, args := #[x, y], argTypes := #[t, t2] }, type := ty, pos := pos, after := af, guard := gd }).run P w = .ok (.value (goInt l2.length)) w' := by
      simp [execOp, resolve, invoke, builtin, Builtin.copy_, ex, ey, run_underlying (slOk_under ht), Builtin.lenOf, Builtin.firstCells, run_sizeOf hE, hmin, hl, h1]
    unfold wp1
    rw [e0]
    exact hK2 _ _ (hput h2)
/-- A literal is copied into a row of one's own. -/
theorem M_copy_sl {α : Type} {enc : α → List AV} {l l2 : List α} {t t2 E : TypeId} {s k : Nat} {dst : Option Tmp} {x y : Operand} {ag : Bool} (hx : ev st x = some (.own k)) (hk : lk st.h k = some (.row enc l E s)) (hy : ev st y = some (.sl enc l2)) (he : ∀ z, (enc z).length = s) (hs0 : 0 < s) (hsc : ∀ z, scL (enc z) = true) (ht : slOk P t E = true) (hE : tyOk P E ag s = true) (hd : dOk C.n dst = true) :
    StepM P C (.call { callee := .builtin .copy, args := #[x, y], argTypes := #[t, t2] }) ty dst st (putT (putH st k (.row enc (l2.take l.length ++ l.drop (min l2.length l.length)) E s)) dst (.int .i64 (min l2.length l.length : Nat))) := fun g a w pos af gd hr K hK => by
  obtain ⟨A, b, o, s', c, vs, e, hA, _, _, h1, h2, h3⟩ := inv_sl (ev_rv hr hy)
  obtain ⟨xs, hw, r1, r2, r3⟩ := hr.sat.blk k _ hk
  have ek := inv_own (ev_rv hr hx)
  have hs2 : l2 ≠ [] → s' = s := fun hne => by
    cases l2 with
    | nil => exact absurd rfl hne
    | cons p r => exact (h1 0 p (by simp)).symm.trans (he p)
  let l3 := l2.take l.length
  have hsl : ∀ (i : Nat) x, l3[i]? = some x → (enc x).length = s := fun i x _ => he x
  have hin : ∀ (i : Nat) x, l3[i]? = some x → l2[i]? = some x := fun i x h => by
    simp only [l3, List.getElem?_take] at h
    split at h
    · exact h
    · simp at h
  have hn3 : l3.length = min l2.length l.length := by simp only [l3, List.length_take]; exact Nat.min_comm _ _
  let news := (List.range (l3.length * s)).map fun q => vs (q / s) (q % s)
  have hget : ∀ j u, news[j]? = some u → j < l3.length * s ∧ u = vs (j / s) (j % s) := fun j u hu => by
    have hj : j < l3.length * s := by
      have := (List.getElem?_eq_some_iff.1 hu).1; simpa [news] using this
    simp [news, List.getElem?_range hj] at hu
    exact ⟨hj, hu.symm⟩
  have hrow : ∃ A1 c1, a.eval x = .slice A1 l.length c1 ∧ (l.length ≠ 0 → ∃ b, blkOf (g.ρ k) = some b ∧ A1 = some ⟨b, 0 * s, none⟩) := by
    rcases hw.2 with ⟨hv, h0⟩ | ⟨b', cap, cur, hv, _⟩
    · exact ⟨none, 0, by rw [← ek, hv, h0], fun h => absurd h0 h⟩
    · exact ⟨_, cap, by rw [← ek, hv], fun _ => ⟨b', by rw [hv]; rfl, by rw [Nat.zero_mul]⟩⟩
  obtain ⟨A1, c1, ex, hA1⟩ := hrow
  have hfin : l.take 0 ++ l3 ++ l.drop (0 + l3.length) = l2.take l.length ++ l.drop (min l2.length l.length) := by rw [hn3]; simp [l3]
  have key := M_copy_core (P := P) (ty := ty) (t2 := t2) (dst := dst) (pos := pos) (af := af) (gd := gd) (l2 := l3) hr (i := 0) ex hA1 hk he hs0 ht hE e (by rw [hn3]) (news := news) (fun hne => ⟨⟨b, o, none⟩, hA (fun h => hne (by simp [l3, h])), fun j u hu => ?_⟩) ⟨by simp [news, flat_len l3 hsl], fun j c v hc hv => ?_⟩ hsc (by omega) hd K
  · rw [hfin, hn3] at key
    exact key (fun a' h => hK a' w g h) (fun a' w' h => hK a' w' g h)
  · obtain ⟨hj, rfl⟩ := hget j u hu
    have hq : j / s < l3.length := Nat.div_lt_of_lt_mul (by rw [Nat.mul_comm]; exact hj)
    have hdm : j / s * s + j % s = j := by rw [Nat.mul_comm]; exact Nat.div_add_mod j s
    have e2 := hs2 (fun h => hne (by simp [l3, h]))
    subst e2
    have := h2 (j / s') _ (j % s') (hin _ _ (List.getElem?_eq_getElem hq)) (Nat.mod_lt _ hs0)
    have h4 := (hr.sat.im _ _ _ this).1
    rw [Nat.add_assoc, hdm] at h4
    rw [add_plain']; exact h4
  · obtain ⟨hj, rfl⟩ := hget j v hv
    have hq : j / s < l3.length := Nat.div_lt_of_lt_mul (by rw [Nat.mul_comm]; exact hj)
    have hdm : j / s * s + j % s = j := by rw [Nat.mul_comm]; exact Nat.div_add_mod j s
    have hr' : j % s < s := Nat.mod_lt _ hs0
    have hp := List.getElem?_eq_getElem hq
    refine h3 (j / s) _ (j % s) c (hin _ _ hp) ?_
    rw [← flat_get l3 hsl (j / s) _ (j % s) hp hr', hdm]; exact hc
/-- The head of a row is copied to a later place in it. -/
theorem M_copy_self {α : Type} {enc : α → List AV} {l : List α} {t t2 E : TypeId} {s k i m j : Nat} {dst : Option Tmp} {x y : Operand} {ag : Bool} (hx : ev st x = some (.sub k s i m)) (hk : lk st.h k = some (.row enc l E s)) (hy : ev st y = some (.sub k s 0 j)) (he : ∀ z, (enc z).length = s) (hs0 : 0 < s) (hsc : ∀ z, scL (enc z) = true) (him : i + m ≤ l.length) (hjl : j ≤ l.length)
    (ht : slOk P t E = true) (hE : tyOk P E ag s = true) (hd : dOk C.n dst = true) :
    StepM P C (.call { callee := .builtin .copy, args := #[x, y], argTypes := #[t, t2] }) ty dst st (putT (putH st k (.row enc (l.take i ++ l.take (min j m) ++ l.drop (i + min j m)) E s)) dst (.int .i64 (min j m : Nat))) := fun g a w pos af gd hr K hK => by
  have hxv := ev_rv hr hx
  have hyv := ev_rv hr hy
  obtain ⟨xs, hw, r1, r2, r3⟩ := hr.sat.blk k _ hk
  generalize ex : a.eval x = vx at hxv
  generalize ey : a.eval y = vy at hyv
  cases hxv with
  | sub _ _ _ _ c A hA =>
  cases hyv with
  | sub _ _ _ _ c' A' hA' =>
  let l3 := l.take (min j m)
  have hn3 : l3.length = min j m := by simp only [l3, List.length_take]; omega
  have hsl : ∀ (i : Nat) x, l3[i]? = some x → (enc x).length = s := fun i x _ => he x
  have hxl : xs.length = l.length * s := hw.1
  have hflat := flat_of_row r1 hxl r2 hs0
  let news := xs.take (l3.length * s)
  have hle : l3.length * s ≤ l.length * s := Nat.mul_le_mul_right s (by rw [hn3]; omega)
  have hl3 : l3.flatMap enc = (l.flatMap enc).take (l3.length * s) := by
    have hlen : (l3.flatMap enc).length = l3.length * s := flat_len l3 hsl
    have : l.flatMap enc = l3.flatMap enc ++ (l.drop (min j m)).flatMap enc := by rw [← List.flatMap_append, List.take_append_drop]
    rw [this, List.take_append_of_le_length (Nat.le_of_eq hlen.symm), List.take_of_length_le (Nat.le_of_eq hlen)]
  have hnews : RVL g.I noNames (l3.flatMap enc) news := by
    rw [hl3]
    refine ⟨by simp only [news, List.length_take, hxl, flat_len l r1], fun q c v hc hv => ?_⟩
    simp only [news, List.getElem?_take] at hc hv
    split at hc
    · rename_i h; rw [if_pos h] at hv; exact hflat.2 q c v hc hv
    · simp at hc
  have key := M_copy_core (P := P) (ty := ty) (t2 := t2) (dst := dst) (pos := pos) (af := af) (gd := gd) (l2 := l3) hr (i := i) ex hA hk he hs0 ht hE ey (by rw [hn3]) (news := news) (fun hne => ?_) hnews hsc him hd K
  · rw [hn3] at key
    exact key (fun a' h => hK a' w g h) (fun a' w' h => hK a' w' g h)
  · have hj0 : j ≠ 0 := fun e => hne (by simp [l3, e])
    obtain ⟨b, hb, e1⟩ := hA' hj0
    refine ⟨⟨b, 0 * s, none⟩, e1, fun q u hu => ?_⟩
    have hq : q < l3.length * s := by
      have := (List.getElem?_eq_some_iff.1 hu).1
      simp only [news, List.length_take] at this; omega
    have hux : xs[q]? = some u := by
      simp only [news, List.getElem?_take] at hu
      rw [if_pos hq] at hu; exact hu
    rcases hw.2 with ⟨hv, _⟩ | ⟨b', cap, cur, hv, _, hh, hnc, _, hcur, htk⟩
    · rw [hv] at hb; simp [blkOf] at hb
    · have : b' = b := by rw [hv] at hb; simpa [blkOf] using hb
      subst this
      rw [add_plain', Nat.zero_mul, Nat.zero_add]
      simp only [World.cell?, hh]
      have h0 : cur.toList[q]? = some u := by
        rw [← hux, ← htk, List.getElem?_take, if_pos (by omega)]
      simpa using h0
/-- The head of a row. -/
theorem P_slice_head {α : Type} {enc : α → List AV} {l : List α} {E t : TypeId} {x y : Operand} {k s : Nat} {kk : IntKind} {i : Int} {ag : Bool} (hx : ev st x = some (.own k)) (hk : lk st.h k = some (.row enc l E s)) (hy : ev st y = some (.int kk i)) (ht : slOk P t E = true) (hE : tyOk P E ag s = true)
    (h0 : 0 ≤ i) (h1 : i ≤ l.length) : Pur P C (.slice t x none (some y) none) ty st (.sub k s 0 i.toNat) := fun g a w dst pos af gd hr => by
  obtain ⟨xs, hw, _⟩ := hr.sat.blk k _ hk
  have ek := inv_own (ev_rv hr hx)
  have ey := inv_int (ev_rv hr hy)
  have key : ∀ (A : Option Addr) (c : Nat), g.ρ k = .slice A l.length c → (l.length ≠ 0 → ∃ b, A = some ⟨b, 0, none⟩) → l.length ≤ c →
      ∃ v, (execOp a.eval { dst := dst, op := .slice t x none (some y) none, type := ty, pos := pos, after := af, guard := gd }).run P w = .ok (.value v) w ∧ RV g.I g.ρ (.sub k s 0 i.toNat) v := fun A c hv hA hc => by
    refine ⟨.slice (if c = 0 then A else A.map (·.add (0 * s))) (i.toNat - 0) (c - 0), ?_, .sub k s _ _ _ _ (fun hm => ?_)⟩
    · rw [hv] at ek
      have : (Instr.sliceBounds true l.length c none (some (.int kk i)) none).run P w = .ok (0, i.toNat, c) w := by
        have : i ≤ (c : Int) := by omega
        simp [Instr.sliceBounds, Instr.sliceBound, asIntOf, h0, this]
      simp [execOp, Instr.sliceAt, Instr.slice, run_underlying (slOk_under ht), ← ek, ey, this, run_sizeOf hE]
    · obtain ⟨b, hb⟩ := hA (by omega)
      refine ⟨b, by rw [hv, hb]; rfl, ?_⟩
      rw [hb]
      split <;> simp [add_plain']
  rcases hw.2 with ⟨hv, h0'⟩ | ⟨b, cap, cur, hv, _, _, hnc, _⟩
  · exact key none 0 (by rw [hv, h0']) (fun h => absurd h0' h) (by omega)
  · exact key _ cap hv (fun _ => ⟨b, rfl⟩) hnc
theorem frL_at {k : Nat} : ∀ {cs : List AV} {j : Nat} {c : AV}, AV.fr.frL k cs = true → cs[j]? = some c → c.fr k = true
  | [], j, c, _, h => by simp at h
  | x :: r, 0, c, hf, h => by
    simp [AV.fr.frL] at hf
    simp at h; subst h; exact hf.1
  | x :: r, j + 1, c, hf, h => by
    simp [AV.fr.frL] at hf
    exact frL_at hf.2 (by simpa using h)
def mvF (k k' : Nat) : AV → AV
  | .own n => bif n.beq k then .own k' else .own n
  | x => cln k x
/-- A row takes another name. -/
theorem Imp.mv {α : Type} {enc : α → List AV} {l : List α} {E s : Nat} (k k' : Nat) (hk : lk st.h k = some (.row enc l E s)) (hf : st.fr k' = true) : Imp C st { t := mapT (mvF k k') st.t, h := (k', .row enc l E s) :: (k, .dead) :: mapH (mvF k k') st.h } := fun g a w hr => by
  obtain ⟨xs, hw, h1, h2, h3⟩ := hr.sat.blk k _ hk
  simp only [St.fr, Bool.and_eq_true] at hf
  let ρ' : Nat → Value := fun n => if n = k' then g.ρ k else g.ρ n
  let O' : Owns := fun b => if blkOf (g.ρ k) = some b then some (C.d, k') else g.O b
  have hρ : ∀ n, some k' ≠ some n → ρ' n = g.ρ n := fun n hn => by
    show (if n = k' then _ else _) = _
    rw [if_neg (fun e => hn (by rw [e]))]
  have hOn : ∀ b, blkOf (g.ρ k) ≠ some b → O' b = g.O b := fun b hb => if_neg hb
  have hOy : ∀ b, blkOf (g.ρ k) = some b → O' b = some (C.d, k') := fun b hb => if_pos hb
  have hmv : ∀ x v, x.fr k' = true → RV g.I g.ρ x v → RV g.I ρ' (mvF k k' x) v := fun x v hx h => by
    have hcl : RV g.I ρ' (cln k x) v := by
      unfold cln
      cases hq : x.fr k with
      | false => exact .any _
      | true => exact h.renameOpt (nk := some k') (fun n hn => by injection hn with hn; rw [← hn]; exact hx) hρ
    cases x <;> try exact hcl
    case own n =>
      simp only [mvF]
      cases hb : n.beq k with
      | false => exact h.renameOpt (nk := some k') (fun n hn => by injection hn with hn; rw [← hn]; exact hx) hρ
      | true =>
        have : n = k := by simpa using hb
        subst this
        have e := inv_own h
        cases h with
        | own _ A m c h => exact .own k' A m c (by show (if k' = k' then _ else _) = _; rw [if_pos rfl]; exact h)
  have hio : ImOB ⟨ρ', g.I, O'⟩ w := by
    refine ⟨fun b o u hI => ?_, fun b n hO => ?_, hr.sat.ob.2⟩
    · obtain ⟨q1, q2⟩ := hr.sat.im b o u hI
      refine ⟨q1, ?_⟩
      by_cases hb : blkOf (g.ρ k) = some b
      · rw [(h3 b hb).1] at q2; cases q2
      · exact (hOn b hb).trans q2
    · by_cases hb : blkOf (g.ρ k) = some b
      · exact hr.sat.ob.1 b _ (h3 b hb).1
      · have : O' b = some n := hO
        rw [hOn b hb] at this; exact hr.sat.ob.1 b n this
  have hdf : Dfs C ⟨ρ', g.I, O'⟩ a.defers w := by
    obtain ⟨D, d1, dn, d2⟩ := hr.defers
    refine ⟨D, d1, dn, fun r hr' => ?_⟩
    obtain ⟨d3, d4, d5⟩ := d2 r hr'
    refine ⟨d3, ?_, d5⟩
    show O' r = none
    by_cases hb : blkOf (g.ρ k) = some r
    · rw [(h3 r hb).1] at d4; cases d4
    · exact (hOn r hb).trans d4
  have hnb : ∀ (b kk : Nat), kk ≠ k → g.O b = some (C.d, kk) → O' b = some (C.d, kk) := fun b kk hne hO => by
    by_cases hb : blkOf (g.ρ k) = some b
    · rw [(h3 b hb).1] at hO; injection hO with hO; injection hO with _ hO; exact absurd hO.symm hne
    · exact (hOn b hb).trans hO
  refine ⟨⟨ρ', g.I, O'⟩, hr.size, hdf, fun t x hx => ?_, ⟨hio.1, hio.2, fun kk B hB => ?_⟩, ?_⟩
  · rw [lk_mapT] at hx
    cases hz : lk st.t t with
    | none => simp [hz] at hx
    | some z => simp [hz] at hx; subst hx; exact hmv z _ (frT_lk hf.1 hz) (hr.tmps t z hz)
  · simp only [lk_cons] at hB
    cases hb1 : k'.beq kk with
    | true =>
      have e1 : k' = kk := by simpa using hb1
      subst e1
      simp [hb1] at hB
      subst hB
      have e2 : ρ' k' = g.ρ k := if_pos rfl
      refine ⟨xs, (by show w.ownsRow 0 E s (ρ' k') _ xs; rw [e2]; exact hw), h1, h2, fun b hb => ?_⟩
      replace hb : blkOf (ρ' k') = some b := hb
      rw [e2] at hb
      exact ⟨hOy b hb, (h3 b hb).2⟩
    | false =>
      simp only [hb1, cond_false] at hB
      cases hb2 : k.beq kk with
      | true => simp [hb2] at hB; subst hB; trivial
      | false =>
        simp only [hb2, cond_false] at hB
        have hne : kk ≠ k := fun e => by subst e; simp at hb2
        have hne' : kk ≠ k' := fun e => by subst e; simp at hb1
        have eρ : ρ' kk = g.ρ kk := if_neg hne'
        rw [lk_mapH] at hB
        cases hz : lk st.h kk with
        | none => simp [hz] at hB
        | some B0 =>
          simp [hz] at hB; subst hB
          have h0 := hr.sat.blk kk B0 hz
          have hfr := (frH_lk hf.2 hz).1
          cases B0 with
          | box cs E =>
            obtain ⟨b2, vs, q1, q2, q3, q4, q5, q6⟩ := h0
            refine ⟨b2, vs, eρ.trans q1, hnb b2 kk hne q2, q3, q4, by simpa using q5, fun j c v hc hv => ?_⟩
            rw [List.getElem?_map] at hc
            cases hc0 : cs[j]? with
            | none => simp [hc0] at hc
            | some c0 => simp [hc0] at hc; subst hc; exact hmv c0 v (frL_at hfr hc0) (q6 j c0 v hc0 hv)
          | row enc l E s =>
            obtain ⟨ys, q1, q2, q3, q4⟩ := h0
            refine ⟨ys, (by show World.ownsRow _ _ _ _ (ρ' kk) _ _; rw [eρ]; exact q1), q2, q3, fun b2 hb2 => ?_⟩
            replace hb2 : blkOf (ρ' kk) = some b2 := hb2
            rw [eρ] at hb2
            exact ⟨hnb b2 kk hne (q4 b2 hb2).1, (q4 b2 hb2).2⟩
          | hold vs cs =>
            refine ⟨by simpa using h0.1, fun j c v hc hv => ?_⟩
            rw [List.getElem?_map] at hc
            cases hc0 : cs[j]? with
            | none => simp [hc0] at hc
            | some c0 => simp [hc0] at hc; subst hc; exact hmv c0 v (frL_at hfr hc0) (h0.2 j c0 v hc0 hv)
          | obj b2 o => exact ⟨h0.1, hnb b2 kk hne h0.2.1, h0.2.2⟩
          | yld j on =>
            refine yld_far (bo := blkOf (g.ρ k)) h0 (Im.le_refl _) (fun b' _ hb' => hOn b' hb') (fun b' e => .inl ⟨k, (h3 b' e).1⟩) ⟨rfl, rfl, rfl, Nat.le_refl _, fun _ _ _ => rfl⟩ (Nat.le_refl _) (fun b' n hn => ?_) hio
            by_cases hb' : blkOf (g.ρ k) = some b'
            · exact h0.2.2.2.1 b' k (h3 b' hb').1
            · have : O' b' = some (C.d, n) := hn
              rw [hOn b' hb'] at this; exact h0.2.2.2.1 b' n this
          | mpb kenc venc l =>
            obtain ⟨b2, es, ck, q1, q2, q3, q4, q5, q6⟩ := h0
            exact ⟨b2, es, ck, eρ.trans q1, hnb b2 kk hne q2, q3, q4, q5, q6⟩
          | dead => trivial
  · refine ⟨hr.ext.I, hr.ext.os, hr.ext.tape, hr.ext.output, hr.ext.drawn, hr.ext.size, fun b hb hn ho => ?_, fun b y n hlt hy => ?_⟩
    · obtain ⟨q1, q2⟩ := hr.ext.keep b hb hn ho
      refine ⟨q1, ?_⟩
      by_cases hb' : blkOf (g.ρ k) = some b
      · exact absurd (h3 b hb').2 hn
      · exact (hOn b hb').trans q2
    · by_cases hb' : blkOf (g.ρ k) = some b
      · have : O' b = some (y, n) := hy
        rw [hOy b hb'] at this; injection this with this; injection this with e1 e2
        subst e1
        exact hr.ext.own b C.d k hlt (h3 b hb').1
      · have : O' b = some (y, n) := hy
        rw [hOn b hb'] at this; exact hr.ext.own b y n hlt this
def fnTy (P : Program) (t : TypeId) : Prop := ∃ a b c, P.underlying t = some (.func a b c)
theorem run_equal_fn {t : TypeId} (hu : fnTy P t) (c : Go.Fn) (u v : Array Value) (w : World) : (Op.equal t (.func c u v) .nilFunc).run P w = .ok false w := by
  obtain ⟨p, q, r, hu⟩ := hu
  unfold Op.equal
  rw [show Op.maxDepth = 9999 + 1 from rfl]
  unfold Op.equalIn
  simp [run_underlying hu]
theorem run_equal_nilf {t : TypeId} (hu : fnTy P t) (w : World) : (Op.equal t .nilFunc .nilFunc).run P w = .ok true w := by
  obtain ⟨p, q, r, hu⟩ := hu
  unfold Op.equal
  rw [show Op.maxDepth = 9999 + 1 from rfl]
  unfold Op.equalIn
  simp [run_underlying hu]
/-- A function held against nil. -/
theorem P_neq_fn {t : TypeId} {x y : Operand} {yt : TypeId} {f : FuncId} {cs : List AV} (hu : fnTy P t) (hx : ev st x = some (.fn f cs)) (hy : ev st y = some .nilf) : Pur P C (.binOp .neq t x y yt) ty st (.bool true) := fun g a w dst pos af gd hr => by
  obtain ⟨us, e, _, _⟩ := inv_fn (ev_rv hr hx)
  have ey := inv_nilf (ev_rv hr hy)
  refine ⟨.bool true, ?_, .bool _⟩
  have hg : (eqGuard .neq t x y (.func (.func f) #[] us.toArray) .nilFunc).run P w = .ok () w := by unfold eqGuard; simp
  simp only [execOp, e, ey, Sem.run_bind, hg, Result.andThen_ok, binOp, run_equal_fn hu, Sem.run_pure]; rfl
theorem P_neq_nilf {t : TypeId} {x y : Operand} {yt : TypeId} (hu : fnTy P t) (hx : ev st x = some .nilf) (hy : ev st y = some .nilf) : Pur P C (.binOp .neq t x y yt) ty st (.bool false) := fun g a w dst pos af gd hr => by
  have e := inv_nilf (ev_rv hr hx)
  have ey := inv_nilf (ev_rv hr hy)
  refine ⟨.bool false, ?_, .bool _⟩
  have hg : (eqGuard .neq t x y .nilFunc .nilFunc).run P w = .ok () w := by unfold eqGuard; simp
  simp only [execOp, e, ey, Sem.run_bind, hg, Result.andThen_ok, binOp, run_equal_nilf hu, Sem.run_pure]; rfl
/-- An operation behind a guard that is shut. -/
theorem ChM.gn {ops : Array Oper} {ms : List Nat} {hid : List Nat} {i m : Nat} {fs : List FactM} {o : Oper} (x : AV) {d gi t : Nat} {want b : Bool} {g0 : List (Nat × Bool)} (h : ChM P C ops ms st hid Q (i + 1) (⟨i, some d, x, none, m, (gi, want) :: g0⟩ :: fs)) (hm : ms[i]? = some m := by exact rfl) (ho : ops[i]? = some o := by exact rfl) (hg : o.guard = some (gi, want) := by exact rfl) (hod : o.dst = some d := by exact rfl) (hi : (ops[gi]?).bind (·.dst) = some t := by exact rfl)
    (hch : chainOf fs gi = g0 := by first | exact (rfl : _ = []) | exact (rfl : _ = [_]) | exact (rfl : _ = [_, _]) | exact (rfl : _ = [_, _, _])) (hb : lk (stR st hid m fs).t t = some (optV (conds fs g0) g0 (.bool b)) := by exact rfl) (hcd : condOf fs gi want = (b == want) := by exact rfl) (hg0 : hasAll fs ((gi, want) :: g0) = true := by exact rfl)
    (hno : conds fs ((gi, want) :: g0) = false := by exact rfl) (hd : d.blt C.n = true := by exact rfl) : ChM P C ops ms st hid Q i fs :=
    .guard hm ho hg hi hb rfl hcd (hasAll_of hg0) (fun e => by rw [hno] at e; cases e) (by rw [hod]; exact hd) (by rw [hod]; exact h)
end
end Go.Rse
