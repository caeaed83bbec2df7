/-
  Walks: times by definition (tactusref01).
-/
import Derived.Test.YtmbjfeaipblfcaaGreatDoorTSpan1
namespace Go.Rse
open Go Go.Proofs
set_option linter.unusedVariables false
set_option linter.unusedSimpArgs false
attribute [local irreducible] Pur StepA StepM Ex X ExG Fn Imp LeV LeB FnO It YStep
attribute [local irreducible] gI
end Go.Rse
