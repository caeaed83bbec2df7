/-
  Walks: the reference's items.
-/
import Derived.Test.YtmbjfeaipblfcaaDoorItem1
import Derived.Test.YtmbjfeaipblfcaaDoorRef1b
import Derived.Test.YtmbjfeaipblfcaaDoorRef9b
namespace Go.Rse
open Go Go.Proofs
set_option linter.unusedVariables false
set_option linter.unusedSimpArgs false
attribute [local irreducible] Pur StepA StepM Ex X ExG Fn Imp LeV LeB FnO It YStep
def rmOk (m : Mn) (v : Int) : Bool := decide (rmV (fullT m v) ⟨3, 2⟩ = mulV (fullT m v) ⟨3, 2⟩) && decide (rmV (durT m v) ⟨3, 2⟩ = mulV (durT m v) ⟨3, 2⟩)
theorem rmOk_all : ckAll rmOk = true := by kernel_rfl
theorem rm_eq {m : Mn} {s : Sg} {z : Tm} (hm : ckM m = 0) (h1 : 1 ≤ s.Value) (h8 : s.Value ≤ 8) (hz : z = bsT m s ∨ z = ⟨3, 2⟩ ∨ z = ⟨1, 2⟩) : rmV z ⟨3, 2⟩ = mulV z ⟨3, 2⟩ := by
  rcases hz with rfl | rfl | rfl
  · have h := ckAll_use rmOk_all hm h1 h8
    unfold rmOk at h
    simp only [Bool.and_eq_true, decide_eq_true_eq] at h
    unfold bsT; split
    · exact h.2
    · exact h.1
  · decide +kernel
  · decide +kernel
attribute [local irreducible] mkC mkA mkE duV duE itK itOf ckD mulV mulE rmV rmE
end Go.Rse
