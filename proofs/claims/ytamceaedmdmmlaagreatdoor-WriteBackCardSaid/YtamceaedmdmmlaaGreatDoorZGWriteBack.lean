import Derived.Test.YtamceaedmdmmlaaGreatDoorCards
import Derived.Test.YtamceaedmdmmlaaGreatDoorZRow4
namespace Go.Proofs.YtamceaedmdmmlaaGreatDoor
open Go Go.Rse Go.RowKit Go.ChangeShapes Go.WideShapes Go.Proofs
theorem writeBack_gb : false = Rows.writeBackRow.goesBy Tryz.pinned.checked.prog := by kernel_rfl
set_option maxHeartbeats 20000000 in
theorem writeBack_jf : joinedFacts Tryz.pinned.checked.prog 3 Tryz.f3 Rows.writeBackSpec Rows.writeBackRow = true := by
  unfold joinedFacts
  simp only [Bool.and_eq_true]
  repeat' apply And.intro
  all_goals (as_aux_lemma => kernel_rfl)
theorem writeBack_nm : Tryz.pinned.checked.prog.funcNamed Rows.writeBackRow.func = some 3 := by kernel_rfl
theorem writeBack_in : Tryz.f3.isInstance Tryz.pinned.checked.prog Rows.writeBackRow.origin Rows.writeBackRow.targs := of_decide_eq_true (by kernel_rfl)
theorem writeBack_wr : Tryz.f3.isWrapper Tryz.pinned.checked.prog Rows.writeBackRow.wrapper Rows.writeBackRow.mainSum := by
  unfold Func.isWrapper
  first | (rw [if_pos (by decide +kernel)]; kernel_rfl) | (rw [if_neg (by decide +kernel)]; exact ⟨rfl, rfl⟩)
end Go.Proofs.YtamceaedmdmmlaaGreatDoor
