/-
  Walks: the statements on the rule that compare.
-/
import Derived.Test.YtfiiobachmglpaaGreatDoorSLaw17c
import Derived.Test.YtfiiobachmglpaaGreatDoorSLaw13b
import Derived.Test.YtfiiobachmglpaaGreatDoorSRun1
set_option linter.unusedSimpArgs false
set_option linter.unusedVariables false
namespace Go.Rse
open Go Go.Proofs
attribute [local irreducible] Pur StepA StepM Ex X ExG Fn Imp LeV LeB FnO It YStep FnW FnOW FnP FnD
attribute [local irreducible] rdE rdV cuV cuE leC leI leE
end Go.Rse
