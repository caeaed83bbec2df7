/-
  Walks: the reference's combinations, cuts and additions; the statement on chosen meanings.
-/
import Derived.Test.YtfiiobachmglpaaGreatDoorSDotB
import Derived.Test.YtfiiobachmglpaaGreatDoorSRefA
import Derived.Test.YtfiiobachmglpaaGreatDoorSKit1
set_option linter.unusedSimpArgs false
set_option linter.unusedVariables false
namespace Go.Rse
open Go Go.Proofs
attribute [local irreducible] Pur StepA StepM Ex X ExG Fn Imp LeV LeB FnO It YStep
attribute [local irreducible] mnsD ckD
end Go.Rse
