/-
  Walks: the statement on sums and on equality of items.
-/
import Derived.Test.YtfiiobachmglpaaGreatDoorSLaw13a
set_option linter.unusedSimpArgs false
set_option linter.unusedVariables false
namespace Go.Rse
open Go Go.Proofs Go.RowKit
section
variable {P : Program} {C : Ctx} {st : St} {ty : TypeId}
end
attribute [local irreducible] Pur StepA StepM Ex X ExG Fn Imp LeV LeB FnO It YStep
attribute [local irreducible] sumE sumV sumF firstT ckT addE addV
end Go.Rse
