import Derived.Test.YtpapdhoblekoeaaGreatDoorCards
import Derived.Test.YtpapdhoblekoeaaGreatDoorZRow4
namespace Go.Proofs.YtpapdhoblekoeaaGreatDoor
open Go Go.Rse Go.RowKit Go.ChangeShapes Go.WideShapes Go.Proofs
theorem topScore_gb : false = Rows.topScoreRow.goesBy Tryz.pinned.checked.prog := by kernel_rfl
set_option maxHeartbeats 20000000 in
theorem topScore_jf : joinedFacts Tryz.pinned.checked.prog 3 Tryz.f3 Rows.topScoreSpec Rows.topScoreRow = true := by
  unfold joinedFacts
  simp only [Bool.and_eq_true]
  repeat' apply And.intro
  all_goals (as_aux_lemma => kernel_rfl)
theorem topScore_nm : Tryz.pinned.checked.prog.funcNamed Rows.topScoreRow.func = some 3 := by kernel_rfl
theorem topScore_in : Tryz.f3.isInstance Tryz.pinned.checked.prog Rows.topScoreRow.origin Rows.topScoreRow.targs := of_decide_eq_true (by kernel_rfl)
theorem topScore_wr : Tryz.f3.isWrapper Tryz.pinned.checked.prog Rows.topScoreRow.wrapper Rows.topScoreRow.mainSum := by
  unfold Func.isWrapper
  first | (rw [if_pos (by decide +kernel)]; kernel_rfl) | (rw [if_neg (by decide +kernel)]; exact ⟨rfl, rfl⟩)
end Go.Proofs.YtpapdhoblekoeaaGreatDoor
