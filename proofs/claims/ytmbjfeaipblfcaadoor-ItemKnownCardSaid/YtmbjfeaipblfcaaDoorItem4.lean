/-
  Walks: the reference's combinations of meanings.
-/
import Derived.Test.YtmbjfeaipblfcaaDoorItem3
import Derived.Test.YtmbjfeaipblfcaaDoorRefA
namespace Go.Rse
open Go Go.Proofs
set_option linter.unusedVariables false
set_option linter.unusedSimpArgs false
attribute [local irreducible] Pur StepA StepM Ex X ExG Fn Imp LeV LeB FnO It YStep
theorem kL_eq (m : Mn) (l : List Sg) : (mnsD m l).map (fun x => (x.length : Int)) ++ twos (prL m l).length = kL m l := rfl
theorem kL_0 (m : Mn) (l : List Sg) : ((mnsD m l).take (mnsD m l).length).map (fun x => (x.length : Int)) = (mnsD m l).map (fun x => (x.length : Int)) ++ twos 0 := by rw [List.take_length]; simp [twos]
theorem map_snoc {L : List (List Int)} {k : Nat} {x : List Int} (h : L[k]? = some x) : (L.take k).map (fun x => (x.length : Int)) ++ [(x.length : Int)] = (L.take (k + 1)).map (fun x => (x.length : Int)) := by
  rw [← take_snoc h, List.map_append]; rfl
theorem app_snoc (X : List Int) (k : Nat) : X ++ twos k ++ [2] = X ++ twos (k + 1) := by rw [List.append_assoc, twos_snoc]
theorem kL_le2 {m : Mn} {l : List Sg} : ∀ x ∈ kL m l, x ≤ 2 := fun x hx => by
  unfold kL at hx
  rcases List.mem_append.1 hx with h | h
  · obtain ⟨y, hy, rfl⟩ := List.mem_map.1 h
    have := mnsD_len2 hy; omega
  · unfold twos at h; rw [List.eq_of_mem_replicate h]; decide
theorem ict_hi {m : Mn} {l : List Sg} (h : ckD m l = 0) (h2 : 64 < cntK 1 (kL m l)) : 15 = ictE m l ∧ 0 = ictV m l := by
  have := ict_law h
  rw [if_pos h2, if_pos h2] at this
  exact ⟨this.1.symm, this.2.symm⟩
theorem ict_lo {m : Mn} {l : List Sg} (h : ckD m l = 0) {q : Int} (h2 : cntK 1 (kL m l) = q) (h3 : q ≤ 64) : 0 = ictE m l ∧ q = ictV m l := by
  have := ict_law h
  rw [h2, if_neg (by omega), if_neg (by omega)] at this
  exact ⟨this.1.symm, this.2.symm⟩
theorem w_Ns (k : List Int) (n : Int) (j : Nat) : wN k n j / k.getD (k.length - 1 - j) 0 = wN k n (j + 1) := rfl
theorem w_N0 (k : List Int) (n : Int) : n = wN k n 0 := rfl
theorem w_row0 (k : List Int) (n : Int) : List.replicate ((k.length : Nat) : Int).toNat 0 = List.replicate (k.length - 0) 0 ++ wR k n 0 := by simp [wR]
theorem w_rowN (k : List Int) (n : Int) : List.replicate (k.length - k.length) 0 ++ wR k n k.length = wR k n k.length := by simp
attribute [local irreducible] cntV cntE colN colE ictE ictV ica icb dgL iofE iofD iofM ckD ruleD twos prL kL mnsD wR wN ofD digP
end Go.Rse
