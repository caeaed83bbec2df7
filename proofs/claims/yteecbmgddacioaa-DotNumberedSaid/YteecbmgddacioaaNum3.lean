/-
  Plain: the rule's combination has exactly one number.
-/
import Derived.Test.YteecbmgddacioaaNum2
namespace Go.Rse
open Go Go.Proofs
set_option linter.unusedVariables false
set_option linter.unusedSimpArgs false
theorem rule_len (m : Mn) (l : List Sg) : (ruleD m l).length = (mnsD m l).length := by
  unfold ruleD mnsD; simp
theorem asc_all {m : Mn} {l : List Sg} (hM : ckM m = 0) (hg : Gd l) : ∀ x ∈ (mnsD m l).reverse, Asc x := by
  intro x hx
  rw [List.mem_reverse] at hx
  obtain ⟨k, hk⟩ := List.mem_iff_getElem?.1 hx
  have hlen := rule_len m l
  obtain ⟨c, hc⟩ : ∃ c, (ruleD m l)[k]? = some c := ⟨_, List.getElem?_eq_getElem (by have := (List.getElem?_eq_some_iff.1 hk).1; omega)⟩
  rcases two_all hM hg hk hc with ⟨a, rfl, _⟩ | ⟨a, b, rfl, hab, _⟩
  · exact .inl ⟨a, rfl⟩
  · exact .inr ⟨a, b, rfl, hab⟩
theorem rule_ch {m : Mn} {l : List Sg} (hM : ckM m = 0) (hg : Gd l) : ChG (mnsD m l).reverse (ruleD m l) := by
  have hlen := rule_len m l
  have h := ch_of (L := mnsD m l) (c := ruleD m l) hlen.symm (fun i x v hx hv => by
    rcases two_all hM hg hx hv with ⟨a, rfl, rfl⟩ | ⟨a, b, rfl, hab, rfl | rfl⟩ <;> simp) (mnsD m l).length (Nat.le_refl _)
  rwa [List.take_length, ← hlen, List.take_length] at h
theorem num_of {m : Mn} {l : List Sg} (hM : ckM m = 0) (hg : Gd l) (hc : cntE m l = 0) : ∃ n0 : Nat, (n0 : Int) < cntV m l ∧ ∀ i : Nat, (i : Int) < cntV m l → (ofD (mnsD m l) (i : Int) = ruleD m l ↔ i = n0) := by
  have hA := asc_all hM hg
  obtain ⟨n, h0, h1, h2⟩ := ofG_has (rule_ch hM hg) hA
  refine ⟨n.toNat, ?_, fun i hi => ?_⟩
  · rw [cnt_G hc]; omega
  · rw [cnt_G hc] at hi
    rw [ofD_G]
    constructor
    · intro e
      have := ofG_inj hA (by omega) hi h0 h1 (e.trans h2.symm)
      omega
    · intro e; subst e
      rw [Int.toNat_of_nonneg h0]; exact h2
theorem num_up {m : Mn} {l : List Sg} (hM : ckM m = 0) (hg : Gd l) (hc : cntE m l = 0) {i : Nat} (hi : (i : Int) + 1 < cntV m l) : lessL (ofD (mnsD m l) (i : Int)) (ofD (mnsD m l) ((i : Int) + 1)) = true := by
  rw [cnt_G hc] at hi
  rw [ofD_G, ofD_G]
  exact ofG_up (asc_all hM hg) (by omega) hi
theorem num_mk {m : Mn} {l : List Sg} (hM : ckM m = 0) (hg : Gd l) (hc : cntE m l = 0) {i : Nat} (hi : (i : Int) < cntV m l) : mkE m l (ofD (mnsD m l) (i : Int)) = 0 := by
  rw [cnt_G hc] at hi
  have h := ch_ok (ofG_ch (asc_all hM hg) (n := (i : Int)) (by omega) hi)
  unfold mkE
  rw [if_pos (cntE_ck hc), ofD_G, if_pos h]
theorem num_of_ok {m : Mn} {l : List Sg} (hc : cntE m l = 0) {i : Nat} (hi : (i : Int) < cntV m l) : ofE m l (i : Int) = 0 ∧ ofL m l (i : Int) = ofD (mnsD m l) (i : Int) := by
  have h : ofE m l (i : Int) = 0 := by
    unfold ofE; rw [if_pos hc, if_neg (by omega)]
  exact ⟨h, by unfold ofL; rw [if_pos h]⟩
/-- How many of the first k numbers are n0. -/
def fnd (n0 : Nat) : Nat → Int
  | 0 => 0
  | k + 1 => if k = n0 then fnd n0 k + 1 else fnd n0 k
theorem fnd_yes {n0 k : Nat} (h : k = n0) : fnd n0 k + 1 = fnd n0 (k + 1) := by
  conv => rhs; unfold fnd
  rw [if_pos h]
theorem fnd_no {n0 k : Nat} (h : ¬ k = n0) : fnd n0 k = fnd n0 (k + 1) := by
  conv => rhs; unfold fnd
  rw [if_neg h]
theorem fnd_eq (n0 : Nat) : ∀ k, fnd n0 k = if n0 < k then 1 else 0
  | 0 => rfl
  | k + 1 => by
    simp only [fnd, fnd_eq n0 k]
    by_cases h : k = n0
    · subst h; simp
    · rw [if_neg h]
      by_cases h2 : n0 < k
      · rw [if_pos h2, if_pos (by omega)]
      · rw [if_neg h2, if_neg (by omega)]
theorem fnd_rng (n0 k : Nat) : 0 ≤ fnd n0 k ∧ fnd n0 k ≤ 1 := by
  rw [fnd_eq]; split <;> omega
/-- The combination before number k. -/
def befN (L : List (List Int)) : Nat → List Int
  | 0 => []
  | k + 1 => ofD L (k : Int)
theorem ofD_len2 (L : List (List Int)) (n : Int) : (ofD L n).length = L.length := ofRow_len L n L.length
end Go.Rse
