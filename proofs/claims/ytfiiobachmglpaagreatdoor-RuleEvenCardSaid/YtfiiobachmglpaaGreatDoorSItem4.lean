/-
  Walks: the reference's combinations of meanings.
-/
import Derived.Test.YtfiiobachmglpaaGreatDoorSItem3
import Derived.Test.YtfiiobachmglpaaGreatDoorSRefA
set_option linter.unusedSimpArgs false
set_option linter.unusedVariables false
namespace Go.Rse
open Go Go.Proofs
attribute [local irreducible] Pur StepA StepM Ex X ExG Fn Imp LeV LeB FnO It YStep
attribute [local irreducible] ckD ruleD twos prL mnsD
end Go.Rse
