/-
  Walks: the statement on tables of spellings.
-/
import Derived.Test.YteecbmgddacioaaGreatLaw22b
namespace Go.Rse
open Go Go.Proofs Go.RowKit
set_option linter.unusedVariables false
set_option linter.unusedSimpArgs false
attribute [local irreducible] Pur StepA StepM Ex X ExG Fn Imp LeV LeB FnO It YStep
/-- A time made of a number. -/
def spQ (k : Int) : Int := ([1, 1, 1, 2, 2, 3, 4, 6, 8] : List Int).getD (k % 216 % 9).toNat 0
def spN (k : Int) : Tm := ⟨(1 + k % 216 / 9) / gI (1 + k % 216 / 9) (spQ k), spQ k / gI (1 + k % 216 / 9) (spQ k)⟩
theorem spQ_at (k : Int) : ([1, 1, 1, 2, 2, 3, 4, 6, 8] : List Int)[(k % 216 % 9).toNat]? = some (spQ k) ∧ 1 ≤ spQ k ∧ spQ k ≤ 8 := by
  unfold spQ
  have h9 : (k % 216 % 9).toNat = 0 ∨ (k % 216 % 9).toNat = 1 ∨ (k % 216 % 9).toNat = 2 ∨ (k % 216 % 9).toNat = 3 ∨ (k % 216 % 9).toNat = 4 ∨ (k % 216 % 9).toNat = 5 ∨ (k % 216 % 9).toNat = 6 ∨ (k % 216 % 9).toNat = 7 ∨ (k % 216 % 9).toNat = 8 := by omega
  rcases h9 with h | h | h | h | h | h | h | h | h <;> rw [h] <;> decide
theorem spN_all : ((List.range 216).all fun i => decide (ckT (spN (i : Int)) = 0)) = true := by decide +kernel
theorem spN_ck (k : Int) : ckT (spN k) = 0 := by
  have h := List.all_eq_true.1 spN_all (k % 216).toNat (List.mem_range.2 (by omega))
  rw [show (((k % 216).toNat : Nat) : Int) = k % 216 by omega] at h
  have e : spN (k % 216) = spN k := by unfold spN spQ; rw [Int.emod_emod_of_dvd k (Int.dvd_refl 216)]
  rw [e] at h
  exact of_decide_eq_true h
theorem srtT_len {l : List Tm} : (srtT l).length ≤ l.length := by
  have := cpK_len (msT l) (msT l).length
  rw [msT_len] at this
  unfold srtT cpT
  rw [msT_len]
  exact this
theorem durV_law {m : Mn} {v y : Int} (hm : ckM m = 0) (h1 : 1 ≤ v) (h8 : v ≤ 8) (y1 : 1 ≤ y) (y8 : y ≤ 8) : durE m (spOf v y) = 0 ∧ (durV m (spOf v y)).length ≤ 81 ∧ (∀ x, x ∈ durV m (spOf v y) ↔ x ∈ wdL m v y.toNat) ∧ (durV m (spOf v y)).Pairwise ltT := by
  have hc : chS (spOf v y) = 0 := by
    have e : spOf v y = spOf (spOf v y).Value (spOf v y).Way := rfl
    unfold chS
    rw [if_pos ⟨h1, h8⟩, if_pos ⟨⟨y1, y8⟩, e⟩]
  have hE : durE m (spOf v y) = 0 := by unfold durE; rw [if_pos hm, hc]
  have hV : durV m (spOf v y) = srtT (wdL m v y.toNat) := by unfold durV; rw [if_pos hE]; rfl
  have hl := srtT_law (l := wdL m v y.toNat) (wdL_ck hm h1 h8 y.toNat (by omega))
  have hn := wdL_len m h1 y.toNat
  rw [hV]
  exact ⟨hE, Nat.le_trans srtT_len hn, hl.1, hl.2⟩
theorem tiI_mem {m : Mn} {v : Int} {x : Tm} : ∀ n, x ∈ tiI m v n ↔ ∃ i, i < n ∧ x ∈ wdL m v i
  | 0 => by simp [tiI]
  | n + 1 => by
    unfold tiI
    rw [List.mem_append, tiI_mem n]
    constructor
    · rintro (⟨i, h, h2⟩ | h)
      · exact ⟨i, by omega, h2⟩
      · exact ⟨n, by omega, h⟩
    · rintro ⟨i, h, h2⟩
      rcases Nat.lt_succ_iff_lt_or_eq.1 h with h | h
      · exact .inl ⟨i, h, h2⟩
      · exact .inr (h ▸ h2)
theorem tiO_mem {m : Mn} {x : Tm} : ∀ k, x ∈ tiO m k ↔ ∃ j, j < k ∧ x ∈ tiI m (1 + (j : Int)) 9
  | 0 => by simp [tiO]
  | k + 1 => by
    unfold tiO
    rw [List.mem_append, tiO_mem k]
    constructor
    · rintro (⟨i, h, h2⟩ | h)
      · exact ⟨i, by omega, h2⟩
      · exact ⟨k, by omega, h⟩
    · rintro ⟨i, h, h2⟩
      rcases Nat.lt_succ_iff_lt_or_eq.1 h with h | h
      · exact .inl ⟨i, h, h2⟩
      · exact .inr (h ▸ h2)
theorem wdL_0 (m : Mn) (v : Int) : wdL m v 0 = [] := by simp [wdL]
theorem alI_ne {m : Mn} {v : Int} {t : Tm} : ∀ n, alI m t v n ≠ [] ↔ ∃ i, i < n ∧ t ∈ wdL m v i
  | 0 => by simp [alI]
  | n + 1 => by
    have ih := alI_ne (m := m) (v := v) (t := t) n
    have hs : (∃ i, i < n + 1 ∧ t ∈ wdL m v i) ↔ (∃ i, i < n ∧ t ∈ wdL m v i) ∨ t ∈ wdL m v n :=
      ⟨fun ⟨i, h, h2⟩ => (Nat.lt_succ_iff_lt_or_eq.1 h).elim (fun h => .inl ⟨i, h, h2⟩) (fun h => .inr (h ▸ h2)), fun h => h.elim (fun ⟨i, h, h2⟩ => ⟨i, by omega, h2⟩) (fun h => ⟨n, by omega, h⟩)⟩
    rw [hs]
    unfold alI
    by_cases h : n ≠ 0 ∧ t ∈ wdL m v n
    · rw [if_pos h]; simp [h.2]
    · rw [if_neg h, ih]
      refine ⟨.inl, fun h2 => h2.elim id fun h3 => absurd ⟨fun e => ?_, h3⟩ h⟩
      subst e; rw [wdL_0] at h3; simp at h3
theorem alO_ne {m : Mn} {t : Tm} : ∀ k, alO m t k ≠ [] ↔ t ∈ tiO m k
  | 0 => by simp [alO, tiO]
  | k + 1 => by
    have ih := alO_ne (m := m) (t := t) k
    have h2 := alI_ne (m := m) (v := 1 + (k : Int)) (t := t) 9
    unfold alO tiO
    rw [List.mem_append, ← ih, tiI_mem, ← h2]
    by_cases h : alO m t k = [] <;> simp [h]
theorem tab_law {m : Mn} (hm : ckM m = 0) : timV m = srtT (tiO m 8) ∧ (∀ x, x ∈ timV m ↔ x ∈ tiO m 8) ∧ (∀ x ∈ timV m, ckT x = 0) ∧ 1 ≤ (timV m).length ∧ (timV m).length ≤ 6000 := by
  have e : timV m = srtT (tiO m 8) := by unfold timV; rw [if_pos hm]
  have hl := srtT_law (l := tiO m 8) (tiO_ck hm 8 (by omega))
  have hn := tiO_len m 8
  have h2 := srtT_len (l := tiO m 8)
  rw [e]
  refine ⟨rfl, hl.1, fun x hx => tiO_ck hm 8 (by omega) x ((hl.1 x).1 hx), ?_, by omega⟩
  have hx : fullT m 1 ∈ tiO m 8 := (tiO_mem 8).2 ⟨0, by omega, (tiI_mem 9).2 ⟨1, by omega, by simp [wdL]⟩⟩
  have := List.length_pos_of_mem ((hl.1 _).2 hx)
  omega
theorem take_mem {L : List Tm} {q : Nat} {u t : Tm} (h : L[q]? = some u) : (decide (t ∈ L.take q) || decide (u = t)) = decide (t ∈ L.take (q + 1)) := by
  rw [List.take_add_one, h, ← Bool.decide_or]
  simp only [Option.toList_some, List.mem_append, List.mem_singleton]
  congr 1
  exact propext ⟨fun h => h.imp id Eq.symm, fun h => h.imp id Eq.symm⟩
/-- What has been seen among the first ones. -/
def seenT (X : List Sp) (s : Sp) (t : Tm) (L : List Tm) (q : Nat) : List Sp := if t ∈ L.take q then X ++ [s] else X
theorem seen_0 (X : List Sp) (s : Sp) (t : Tm) (L : List Tm) : X = seenT X s t L 0 := by simp [seenT]
theorem seen_yes {X : List Sp} {s : Sp} {t : Tm} {L : List Tm} {q : Nat} {u : Tm} (h : L[q]? = some u) (e : u = t) (hp : L.Pairwise ltT) : seenT X s t L q ++ [s] = seenT X s t L (q + 1) := by
  subst e
  have hn : ¬ u ∈ L.take q := fun hm => by
    obtain ⟨i, hi⟩ := List.mem_iff_getElem?.1 hm
    rw [List.getElem?_take] at hi
    split at hi
    · rename_i hiq
      have h1 := List.getElem?_eq_some_iff.1 hi
      have h2 := List.getElem?_eq_some_iff.1 h
      have := List.pairwise_iff_getElem.1 hp i q h1.1 h2.1 hiq
      rw [h1.2, h2.2] at this
      exact ltT_irr _ this
    · simp at hi
  unfold seenT
  rw [if_neg hn, if_pos (by rw [List.take_add_one, h]; simp)]
theorem seen_no {X : List Sp} {s : Sp} {t : Tm} {L : List Tm} {q : Nat} {u : Tm} (h : L[q]? = some u) (e : ¬ u = t) : seenT X s t L q = seenT X s t L (q + 1) := by
  unfold seenT
  have : t ∈ L.take (q + 1) ↔ t ∈ L.take q := by
    rw [List.take_add_one, h]
    simp only [Option.toList_some, List.mem_append, List.mem_singleton]
    exact ⟨fun h => h.elim id fun h => absurd h.symm e, .inl⟩
  by_cases h2 : t ∈ L.take q
  · rw [if_pos h2, if_pos (this.2 h2)]
  · rw [if_neg h2, if_neg (fun h => h2 (this.1 h))]
theorem seen_len (X : List Sp) (s : Sp) (t : Tm) (L : List Tm) (q : Nat) : (seenT X s t L q).length ≤ X.length + 1 := by
  unfold seenT; split <;> simp
theorem seen_end {m : Mn} {v : Int} {t : Tm} {i : Nat} {L : List Tm} (hL : ∀ x, x ∈ L ↔ x ∈ wdL m v (1 + (i : Int)).toNat) (X : List Sp) : seenT (X ++ alI m t v (1 + i)) (spOf v (1 + (i : Int))) t L L.length = X ++ alI m t v (1 + (i + 1)) := by
  rw [show (1 + (i : Int)).toNat = 1 + i by omega] at hL
  unfold seenT
  rw [List.take_length]
  by_cases h : t ∈ L
  · rw [if_pos h, List.append_assoc]
    have := alI_yes (m := m) (t := t) (v := v) (n := 1 + i) (by omega) ((hL t).1 h) X
    rw [List.append_assoc] at this
    rw [show ((1 + i : Nat) : Int) = 1 + (i : Int) by omega] at this
    exact this
  · rw [if_neg h]
    exact alI_no (m := m) (t := t) (v := v) (n := 1 + i) (.inr fun h2 => h ((hL t).2 h2)) X
attribute [local irreducible] fullT durT mulV wdL srtT msT cpT tiI tiO timV durV durE allE bthE alO alI mMk gI seenT spQ
end Go.Rse
