/-
  Walks: segments by definition, their counts, sums of first and of last items.
  Walks: which choices are allowed at a level, by definition (the state is only read).
  Walks: counts and segments by definition.
-/
import Derived.Test.YtfiiobachmglpaaGreatDoorSLvlB
set_option linter.unusedSimpArgs false
set_option linter.unusedVariables false
namespace Go.Rse
open Go Go.Proofs
attribute [local irreducible] Pur StepA StepM Ex X ExG Fn Imp LeV LeB FnO It YStep FnW FnOW
attribute [local irreducible] fsA fsL drL addV addE subV subE divV divE sumF itR
end Go.Rse
namespace Go.Rse
open Go Go.Proofs
attribute [local irreducible] Pur StepA StepM Ex X ExG Fn Imp LeV LeB FnO It YStep FnW FnOW
attribute [local irreducible] fsL fsA lgQ rcQ cmpV addV addE subV subE drL itR
end Go.Rse
namespace Go.Rse
open Go Go.Proofs
attribute [local irreducible] Pur StepA StepM Ex X ExG Fn Imp LeV LeB FnO It YStep FnW FnOW
attribute [local irreducible] fsA addV addE subV subE lsE cnA cnB cnC cnE cnV cn1 divE divV sumF itR drL
end Go.Rse
