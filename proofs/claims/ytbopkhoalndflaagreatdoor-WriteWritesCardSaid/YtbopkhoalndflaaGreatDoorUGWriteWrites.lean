import Derived.Test.YtbopkhoalndflaaGreatDoorCards
import Derived.Test.YtbopkhoalndflaaGreatDoorURow4
namespace Go.Proofs.YtbopkhoalndflaaGreatDoor
open Go Go.Rse Go.RowKit Go.ChangeShapes Go.WideShapes Go.Proofs
theorem writeWrites_gb : false = Rows.writeWritesRow.goesBy Tryz.pinned.checked.prog := by kernel_rfl
set_option maxHeartbeats 20000000 in
theorem writeWrites_jf : joinedFacts Tryz.pinned.checked.prog 5 Tryz.f5 Rows.writeWritesSpec Rows.writeWritesRow = true := by
  unfold joinedFacts
  simp only [Bool.and_eq_true]
  repeat' apply And.intro
  all_goals (as_aux_lemma => kernel_rfl)
theorem writeWrites_nm : Tryz.pinned.checked.prog.funcNamed Rows.writeWritesRow.func = some 5 := by kernel_rfl
theorem writeWrites_in : Tryz.f5.isInstance Tryz.pinned.checked.prog Rows.writeWritesRow.origin Rows.writeWritesRow.targs := of_decide_eq_true (by kernel_rfl)
theorem writeWrites_wr : Tryz.f5.isWrapper Tryz.pinned.checked.prog Rows.writeWritesRow.wrapper Rows.writeWritesRow.mainSum := by
  unfold Func.isWrapper
  first | (rw [if_pos (by decide +kernel)]; kernel_rfl) | (rw [if_neg (by decide +kernel)]; exact ⟨rfl, rfl⟩)
end Go.Proofs.YtbopkhoalndflaaGreatDoor
