/-
  Plain: the rule's combination gives items.
-/
import Derived.Test.YtmbjfeaipblfcaaGreatDoorTItF1
import Derived.Test.YtmbjfeaipblfcaaGreatDoorTCmb1
import Derived.Test.YtmbjfeaipblfcaaGreatDoorTRun2
namespace Go.Rse
open Go Go.Proofs
set_option linter.unusedVariables false
set_option linter.unusedSimpArgs false
theorem gr_dots {m : Mn} {l : List Sg} (h : Gr m l) : ∀ (i : Nat) z, l[i]? = some z → z.Kind = 3 → ∃ (j : Nat) (p : Sg), i = j + 1 ∧ l[j]? = some p ∧ ¬ p.Kind = 3 := fun i z hz h3 => by
  rcases h i z hz with h1 | ⟨_, j, p, h4, h5, h6⟩
  · omega
  · exact ⟨j, p, h4, h5, by rcases h6 with h | h <;> omega⟩
end Go.Rse
