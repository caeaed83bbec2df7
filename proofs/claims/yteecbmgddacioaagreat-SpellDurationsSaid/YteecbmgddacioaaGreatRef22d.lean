/-
  Walks: the reference for spellings: all spellings of a time, all times.
-/
import Derived.Test.YteecbmgddacioaaGreatLaw22c
import Derived.Test.YteecbmgddacioaaGreatRef22c
namespace Go.Rse
open Go Go.Proofs
set_option linter.unusedVariables false
set_option linter.unusedSimpArgs false
attribute [local irreducible] Pur StepA StepM Ex X ExG Fn Imp LeV LeB FnO It YStep
def mdB (m : Mn) (v : Int) : Bool := (List.range 8).all fun i => sameB (wdL m v (1 + i)) (mdL m v (1 + (i : Int))) && decide ((mdL m v (1 + (i : Int))).length ≤ 81)
theorem mdB_all : ckAll mdB = true := by kernel_rfl
theorem md_law {m : Mn} {v : Int} (hm : ckM m = 0) (h1 : 1 ≤ v) (h8 : v ≤ 8) {i : Nat} (hi : i < 8) : (∀ x, x ∈ mdL m v (1 + (i : Int)) ↔ x ∈ wdL m v (1 + (i : Int)).toNat) ∧ (mdL m v (1 + (i : Int))).Pairwise ltT ∧ (mdL m v (1 + (i : Int))).length ≤ 81 := by
  have h := List.all_eq_true.1 (show (List.range 8).all _ = true from ckAll_use mdB_all hm h1 h8) i (List.mem_range.2 hi)
  rw [Bool.and_eq_true] at h
  have h2 := h.1
  unfold sameB at h2
  simp only [Bool.and_eq_true, List.all_eq_true, decide_eq_true_eq] at h2
  rw [show (1 + (i : Int)).toNat = 1 + i by omega]
  exact ⟨fun x => ⟨h2.1.2 x, fun hx => (h2.1.1 x hx).2⟩, h2.2, of_decide_eq_true h.2⟩
def rtI (m : Mn) (v : Int) (X : List Tm) : Nat → List Tm
  | 0 => X
  | n + 1 => (mdL m v (1 + (n : Int))).foldl insT (rtI m v X n)
def rtO (m : Mn) : Nat → List Tm
  | 0 => []
  | k + 1 => rtI m (1 + (k : Int)) (rtO m k) 8
def rtB (m : Mn) (v : Int) : Bool := if v = 1 then sameB (tiO m 8) (rtO m 8) else true
theorem rtB_all : ckAll rtB = true := by kernel_rfl
theorem rt_law {m : Mn} (hm : ckM m = 0) : rtO m 8 = timV m := by
  have h := ckAll_use rtB_all hm (v := 1) (by decide) (by decide)
  unfold rtB at h
  rw [if_pos rfl] at h
  rw [(tab_law hm).1, srtT_b h]
theorem rtI_len {m : Mn} {v : Int} (hm : ckM m = 0) (h1 : 1 ≤ v) (h8 : v ≤ 8) (X : List Tm) : ∀ n, n ≤ 8 → (rtI m v X n).length ≤ X.length + n * 81
  | 0, _ => by simp [rtI]
  | n + 1, hn => by
    have h1 := rtI_len hm h1 h8 X n (by omega)
    have h2 := (md_law hm (by assumption) h8 (i := n) (by omega)).2.2
    have h3 := foldI_len (mdL m v (1 + (n : Int))) (rtI m v X n)
    unfold rtI; omega
theorem rtO_len {m : Mn} (hm : ckM m = 0) : ∀ k, k ≤ 8 → (rtO m k).length ≤ k * 648
  | 0, _ => by simp [rtO]
  | k + 1, hk => by
    have h1 := rtO_len hm k (by omega)
    have h2 := rtI_len hm (show 1 ≤ 1 + (k : Int) by omega) (by omega) (rtO m k) 8 (Nat.le_refl _)
    unfold rtO; omega
attribute [local irreducible] cmpV subV fullT insT rlN rlL tmkT durT mdL wdL srtT tiO tiI timV alO alI allE bthE seenT rtI rtO
end Go.Rse
