/-
  Walks: the reference's combinations, cuts and additions; the statement on chosen meanings.
-/
import Derived.Test.YtmbjfeaipblfcaaGreatDoorTDotB
import Derived.Test.YtmbjfeaipblfcaaGreatDoorTRefA
import Derived.Test.YtmbjfeaipblfcaaGreatDoorTKit1
namespace Go.Rse
open Go Go.Proofs
set_option linter.unusedVariables false
set_option linter.unusedSimpArgs false
attribute [local irreducible] Pur StepA StepM Ex X ExG Fn Imp LeV LeB FnO It YStep
attribute [local irreducible] mnsD ofRow ofV ofL ofE ofD cntE cntV ckD
end Go.Rse
