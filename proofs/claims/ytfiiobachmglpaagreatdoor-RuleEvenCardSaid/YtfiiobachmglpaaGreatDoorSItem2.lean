/-
  Walks: the reference's items.
-/
import Derived.Test.YtfiiobachmglpaaGreatDoorSItem1
import Derived.Test.YtfiiobachmglpaaGreatDoorSLvlA
import Derived.Test.YtfiiobachmglpaaGreatDoorSRef9b
set_option linter.unusedSimpArgs false
set_option linter.unusedVariables false
namespace Go.Rse
open Go Go.Proofs
attribute [local irreducible] Pur StepA StepM Ex X ExG Fn Imp LeV LeB FnO It YStep
attribute [local irreducible] mkC mkA mkE duV duE itK itOf ckD mulV mulE rmE
end Go.Rse
