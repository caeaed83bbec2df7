/-
  Times in their order: sorted by the library, each once.
-/
import Derived.Test.YteecbmgddacioaaGreatSpell4
import Derived.Test.YteecbmgddacioaaGreatSpR
import Derived.Test.YteecbmgddacioaaGreatSortF
import Derived.Test.YteecbmgddacioaaGreatShelf2
namespace Go.Rse
open Go Go.Proofs Go.Sort
set_option linter.unusedVariables false
set_option linter.unusedSimpArgs false
/-- s is less than t. -/
def ltT (s t : Tm) : Prop := s.N * t.D < t.N * s.D
instance (s t : Tm) : Decidable (ltT s t) := inferInstanceAs (Decidable (_ < _))
theorem cmpV_ok {s t : Tm} (hs : ckT s = 0) (ht : ckT t = 0) : cmpV s t = if ltT s t then -1 else if ltT t s then 1 else 0 := by
  unfold cmpV; rw [if_pos (by simp [firstT, hs, ht])]; rfl
theorem cmpV_lt {s t : Tm} (hs : ckT s = 0) (ht : ckT t = 0) : cmpV s t < 0 ↔ ltT s t := by
  rw [cmpV_ok hs ht]
  split
  · rename_i h; simp [h]
  · rename_i h; split <;> simp [h]
theorem cmpV_ge {s t : Tm} (hs : ckT s = 0) (ht : ckT t = 0) : 0 ≤ cmpV s t ↔ ¬ ltT s t := by rw [← cmpV_lt hs ht]; omega
theorem ltT_irr (s : Tm) : ¬ ltT s s := by unfold ltT; omega
theorem ltT_asym {s t : Tm} (h : ltT s t) : ¬ ltT t s := by unfold ltT at *; omega
theorem ltT_tr {a b c : Tm} (ha : ckT a = 0) (hb : ckT b = 0) (hc : ckT c = 0) (h1 : ltT a b) (h2 : ltT b c) : ltT a c := by
  have da := (ckT_b ha).2.2.2.2.1; have db := (ckT_b hb).2.2.2.2.1; have dc := (ckT_b hc).2.2.2.2.1
  unfold ltT at *
  have e1 : a.N * b.D * c.D < b.N * a.D * c.D := Int.mul_lt_mul_of_pos_right h1 (by omega)
  have e2 : b.N * c.D * a.D < c.N * b.D * a.D := Int.mul_lt_mul_of_pos_right h2 (by omega)
  have e3 : b.N * a.D * c.D = b.N * c.D * a.D := Int.mul_right_comm ..
  have e4 : a.N * b.D * c.D = a.N * c.D * b.D := Int.mul_right_comm ..
  have e5 : c.N * b.D * a.D = c.N * a.D * b.D := Int.mul_right_comm ..
  rw [e4] at e1; rw [e5] at e2; rw [e3] at e1
  exact Int.lt_of_mul_lt_mul_right (Int.lt_trans e1 e2) (by omega)
theorem leT_tr {a b c : Tm} (ha : ckT a = 0) (hb : ckT b = 0) (hc : ckT c = 0) (h1 : ¬ ltT a b) (h2 : ¬ ltT b c) : ¬ ltT a c := by
  have da := (ckT_b ha).2.2.2.2.1; have db := (ckT_b hb).2.2.2.2.1; have dc := (ckT_b hc).2.2.2.2.1
  unfold ltT at *
  rw [Int.not_lt] at *
  have e1 : b.N * a.D * c.D ≤ a.N * b.D * c.D := Int.mul_le_mul_of_nonneg_right h1 (by omega)
  have e2 : c.N * b.D * a.D ≤ b.N * c.D * a.D := Int.mul_le_mul_of_nonneg_right h2 (by omega)
  have e3 : b.N * a.D * c.D = b.N * c.D * a.D := Int.mul_right_comm ..
  have e4 : a.N * b.D * c.D = a.N * c.D * b.D := Int.mul_right_comm ..
  have e5 : c.N * b.D * a.D = c.N * a.D * b.D := Int.mul_right_comm ..
  rw [e4] at e1; rw [e5] at e2; rw [e3] at e1
  exact Int.le_of_mul_le_mul_right (Int.le_trans e2 e1) (show 0 < b.D by omega)
theorem tm_inj {s t : Tm} (hs : ckT s = 0) (ht : ckT t = 0) (e : s.N * t.D = t.N * s.D) : s = t := by
  have bs := ckT_b hs
  have bt := ckT_b ht
  have e2 := congrArg Int.natAbs e
  rw [Int.natAbs_mul, Int.natAbs_mul] at e2
  have d1 : s.D.natAbs ∣ t.D.natAbs := Nat.Coprime.dvd_of_dvd_mul_left (ck_cop hs).symm ⟨t.N.natAbs, by rw [e2, Nat.mul_comm]⟩
  have d2 : t.D.natAbs ∣ s.D.natAbs := Nat.Coprime.dvd_of_dvd_mul_left (ck_cop ht).symm ⟨s.N.natAbs, by rw [← e2, Nat.mul_comm]⟩
  have d3 := Nat.dvd_antisymm d1 d2
  have hD : s.D = t.D := by omega
  have hN : s.N = t.N := by
    rw [hD] at e
    exact Int.eq_of_mul_eq_mul_right (by omega) e
  cases s; cases t; simp at hD hN; rw [hD, hN]
theorem ltT_anti {s t : Tm} (hs : ckT s = 0) (ht : ckT t = 0) (h1 : ¬ ltT s t) (h2 : ¬ ltT t s) : s = t := tm_inj hs ht (by unfold ltT at *; omega)
/-- The times in their order. -/
def msT (l : List Tm) : List Tm := l.mergeSort (leOf cmpV)
theorem msT_len (l : List Tm) : (msT l).length = l.length := List.length_mergeSort l
/-- .. each once. -/
def srtT (l : List Tm) : List Tm := cpT (msT l)
theorem msT_mem {l : List Tm} {x : Tm} : x ∈ msT l ↔ x ∈ l := List.mem_mergeSort
theorem msT_pw {l : List Tm} (h : ∀ x ∈ l, ckT x = 0) : (msT l).Pairwise fun x y => ¬ ltT y x := by
  let l0 : List {a // ckT a = 0} := l.attach.map fun e => ⟨e.1, h e.1 e.2⟩
  have hl0 : l0.map Subtype.val = l := by simp [l0]
  let r0 : {a // ckT a = 0} → {a // ckT a = 0} → Bool := fun x y => leOf cmpV x.1 y.1
  have hr : ∀ x y : {a // ckT a = 0}, r0 x y = true ↔ ¬ ltT y.1 x.1 := fun x y => by
    simp only [r0, leOf, ltOf, Bool.not_eq_true', decide_eq_false_iff_not, Int.not_lt]
    exact cmpV_ge y.2 x.2
  have hm : (l0.mergeSort r0).map Subtype.val = msT l := by
    have e := List.map_mergeSort (r := r0) (s := leOf cmpV) (f := Subtype.val) (l := l0) (fun a _ b _ => rfl)
    rw [e, hl0]; rfl
  rw [← hm, List.pairwise_map]
  refine List.Pairwise.imp (fun {a b} hab => (hr a b).1 hab) (List.pairwise_mergeSort (le := r0) (fun a b c h1 h2 => ?_) (fun a b => ?_) l0)
  · exact (hr a c).2 (leT_tr c.2 b.2 a.2 ((hr b c).1 h2) ((hr a b).1 h1))
  · simp only [Bool.or_eq_true, hr]
    by_cases h3 : ltT b.1 a.1
    · exact .inr (ltT_asym h3)
    · exact .inl h3
theorem cpK_law {l : List Tm} (h : ∀ x ∈ l, ckT x = 0) (hp : l.Pairwise fun x y => ¬ ltT y x) : ∀ k, (∀ x, x ∈ cpK l k ↔ x ∈ l.take k) ∧ (cpK l k).Pairwise ltT
  | 0 => by simp [cpK]
  | k + 1 => by
    obtain ⟨ih1, ih2⟩ := cpK_law h hp k
    rw [List.take_add_one]
    unfold cpK
    cases hv : l[k]? with
    | none => simpa using ⟨ih1, ih2⟩
    | some v =>
      have hkl := (List.getElem?_eq_some_iff.1 hv).1
      have hvl : v ∈ l := List.mem_of_getElem? hv
      simp only
      split
      · rename_i hc
        refine ⟨fun x => ?_, ih2⟩
        rw [ih1 x]
        simp only [Option.toList, List.mem_append, List.mem_singleton]
        refine ⟨.inl, fun hx => hx.elim id fun e => ?_⟩
        subst e
        refine List.mem_of_getElem? (i := k - 1) ?_
        rw [List.getElem?_take_of_lt (by omega)]; exact hc.2
      · rename_i hc
        refine ⟨fun x => by simp only [Option.toList, List.mem_append, ih1 x], ?_⟩
        rw [List.pairwise_append]
        refine ⟨ih2, by simp, fun x hx y hy => ?_⟩
        have hy : y = v := by simpa using hy
        subst hy
        have hx := (ih1 x).1 hx
        obtain ⟨i, hi⟩ := List.mem_iff_getElem?.1 hx
        rw [List.getElem?_take] at hi
        split at hi
        · rename_i hik
          have hil := (List.getElem?_eq_some_iff.1 hi).1
          have hxl : x ∈ l := List.mem_of_getElem? hi
          have pw := List.pairwise_iff_getElem.1 hp
          have h1 : ¬ ltT y x := by
            have := pw i k hil hkl hik
            rwa [(List.getElem?_eq_some_iff.1 hi).2, (List.getElem?_eq_some_iff.1 hv).2] at this
          have hk1 : k - 1 < l.length := by omega
          have hu : l[k - 1]? = some l[k - 1] := List.getElem?_eq_getElem hk1
          have hul : l[k - 1] ∈ l := List.getElem_mem hk1
          have h2 : ¬ ltT y l[k - 1] := by
            have := pw (k - 1) k hk1 hkl (by omega)
            rwa [(List.getElem?_eq_some_iff.1 hv).2] at this
          have h3 : ¬ ltT l[k - 1] x := by
            by_cases e : i = k - 1
            · subst e
              have : l[k - 1] = x := (List.getElem?_eq_some_iff.1 hi).2
              rw [this]; exact ltT_irr x
            · have := pw i (k - 1) hil hk1 (by omega)
              rwa [(List.getElem?_eq_some_iff.1 hi).2] at this
          apply Classical.byContradiction
          intro h4
          have e : y = x := ltT_anti (h _ hvl) (h _ hxl) h1 h4
          subst e
          exact hc ⟨by omega, by rw [hu]; exact congrArg some (ltT_anti (h _ hul) (h _ hvl) h3 h2)⟩
        · simp at hi
theorem srtT_law {l : List Tm} (h : ∀ x ∈ l, ckT x = 0) : (∀ x, x ∈ srtT l ↔ x ∈ l) ∧ (srtT l).Pairwise ltT := by
  obtain ⟨h1, h2⟩ := cpK_law (l := msT l) (fun x hx => h x (msT_mem.1 hx)) (msT_pw h) (msT l).length
  exact ⟨fun x => by rw [show srtT l = cpK (msT l) (msT l).length from rfl, h1 x, List.take_length, msT_mem], h2⟩
theorem srtT_eq {l L : List Tm} (h : ∀ x ∈ l, ckT x = 0) (hm : ∀ x, x ∈ L ↔ x ∈ l) (hp : L.Pairwise ltT) : srtT l = L := by
  obtain ⟨h1, h2⟩ := srtT_law h
  have nd : ∀ {L : List Tm}, L.Pairwise ltT → L.Nodup := fun hp => List.Pairwise.imp (fun {a b} hab e => by subst e; exact ltT_irr _ hab) hp
  refine List.Perm.eq_of_pairwise (le := ltT) (fun a b _ _ h3 h4 => absurd h4 (ltT_asym h3)) h2 hp ((List.perm_ext_iff_of_nodup (nd h2) (nd hp)).2 fun x => by rw [h1 x, hm x])
theorem C_sortTime (l : List Tm) (hl : l.length ≤ 4000000000) (hok : ∀ t ∈ l, ckT t = 0) :
    FnO Tryz.prog 26 [.own 2000000, .fn 27 []] [(2000000, .row tmE l 51 2)] [2000000] (.tup []) [(2000000, .row tmE (msT l) 51 2)] :=
  C_sortF Tryz.sortTime (by kernel_rfl) tmE 2 (by decide) _ l hl (fun t => ckT t = 0) cmpV _ Tryz.isAgg51 Tryz.sizeOf51 (fun _ => rfl)
    (fun t c hc => by simp [tmE] at hc; rcases hc with rfl | rfl <;> rfl) (fun x y _ _ => C_spell_order x y) hok
    (fun x hx => by rw [cmpV_ok hx hx, if_neg (ltT_irr x), if_neg (ltT_irr x)])
    (fun x y z hx hy hz h1 h2 => (cmpV_lt hx hz).2 (ltT_tr hx hy hz ((cmpV_lt hx hy).1 h1) ((cmpV_lt hy hz).1 h2)))
    (fun x y z hx hy hz h1 h2 => (cmpV_ge hx hz).2 (leT_tr hx hy hz ((cmpV_ge hx hy).1 h1) ((cmpV_ge hy hz).1 h2)))
    (fun x y hx hy h1 h2 => ltT_anti hx hy ((cmpV_ge hx hy).1 h1) ((cmpV_ge hy hx).1 h2))
    (fun x y hx hy => by
      rw [cmpV_ge hx hy, cmpV_ge hy hx]
      by_cases h3 : ltT x y
      · exact .inr (ltT_asym h3)
      · exact .inl h3)
end Go.Rse
