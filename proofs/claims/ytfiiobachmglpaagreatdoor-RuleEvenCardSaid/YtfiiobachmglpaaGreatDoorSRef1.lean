/-
  Walks: times by definition (tactusref01).
-/
import Derived.Test.YtfiiobachmglpaaGreatDoorSSpan1
set_option linter.unusedSimpArgs false
set_option linter.unusedVariables false
namespace Go.Rse
open Go Go.Proofs
attribute [local irreducible] Pur StepA StepM Ex X ExG Fn Imp LeV LeB FnO It YStep
attribute [local irreducible] gI
end Go.Rse
