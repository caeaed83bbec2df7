/-
  Walks: the reference's items.
-/
import Derived.Test.YtmbjfeaipblfcaaGreatDoorTItem1
import Derived.Test.YtmbjfeaipblfcaaGreatDoorTRef1b
import Derived.Test.YtmbjfeaipblfcaaGreatDoorTRef9b
namespace Go.Rse
open Go Go.Proofs
set_option linter.unusedVariables false
set_option linter.unusedSimpArgs false
attribute [local irreducible] Pur StepA StepM Ex X ExG Fn Imp LeV LeB FnO It YStep
attribute [local irreducible] mkC mkA mkE duV duE itK itOf ckD mulV mulE
end Go.Rse
