/-
  Walks: the reference's combinations of meanings.
-/
import Derived.Test.YtmbjfeaipblfcaaGreatDoorTItem3
import Derived.Test.YtmbjfeaipblfcaaGreatDoorTRefA
namespace Go.Rse
open Go Go.Proofs
set_option linter.unusedVariables false
set_option linter.unusedSimpArgs false
attribute [local irreducible] Pur StepA StepM Ex X ExG Fn Imp LeV LeB FnO It YStep
theorem ict_lo {m : Mn} {l : List Sg} (h : ckD m l = 0) {q : Int} (h2 : cntK 1 (kL m l) = q) (h3 : q ≤ 64) : 0 = ictE m l ∧ q = ictV m l := by
  have := ict_law h
  rw [h2, if_neg (by omega), if_neg (by omega)] at this
  exact ⟨this.1.symm, this.2.symm⟩
attribute [local irreducible] cntV cntE colN colE ictE ictV ica icb dgL iofE iofD iofM ckD ruleD twos prL kL mnsD ofD digP
end Go.Rse
