/-
  Plain: the rule's combination gives items.
-/
import Derived.Test.YtmbjfeaipblfcaaGreatDoorItF1
import Derived.Test.YtmbjfeaipblfcaaGreatDoorCmb1
import Derived.Test.YtmbjfeaipblfcaaGreatDoorRun2
namespace Go.Rse
open Go Go.Proofs
set_option linter.unusedVariables false
set_option linter.unusedSimpArgs false
theorem rule_mk {m : Mn} {l : List Sg} (hM : ckM m = 0) (hck : ckD m l = 0) : mkE m l (ruleD m l) = 0 := by
  unfold mkE; rw [if_pos hck, if_pos (ch_ok (rule_ck hM hck))]
theorem rule_du {m : Mn} {l : List Sg} (hck : ckD m l = 0) : duE m l (twos (prL m l).length) = 0 := by
  unfold duE
  rw [if_pos hck, if_pos ⟨twos_len _, by unfold mnOk twos; rw [List.all_eq_true]; intro x hx; rw [(List.mem_replicate.1 hx).2]; rfl⟩]
theorem gr_dots {m : Mn} {l : List Sg} (h : Gr m l) : ∀ (i : Nat) z, l[i]? = some z → z.Kind = 3 → ∃ (j : Nat) (p : Sg), i = j + 1 ∧ l[j]? = some p ∧ ¬ p.Kind = 3 := fun i z hz h3 => by
  rcases h i z hz with h1 | ⟨_, j, p, h4, h5, h6⟩
  · omega
  · exact ⟨j, p, h4, h5, by rcases h6 with h | h <;> omega⟩
end Go.Rse
