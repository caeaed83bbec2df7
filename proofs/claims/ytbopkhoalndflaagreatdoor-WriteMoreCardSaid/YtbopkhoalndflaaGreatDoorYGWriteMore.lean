import Derived.Test.YtbopkhoalndflaaGreatDoorCards
import Derived.Test.YtbopkhoalndflaaGreatDoorYRow4
namespace Go.Proofs.YtbopkhoalndflaaGreatDoor
open Go Go.Rse Go.RowKit Go.ChangeShapes Go.WideShapes Go.Proofs
theorem writeMore_gb : false = Rows.writeMoreRow.goesBy Tryz.pinned.checked.prog := by kernel_rfl
set_option maxHeartbeats 20000000 in
theorem writeMore_jf : joinedFacts Tryz.pinned.checked.prog 6 Tryz.f6 Rows.writeMoreSpec Rows.writeMoreRow = true := by
  unfold joinedFacts
  simp only [Bool.and_eq_true]
  repeat' apply And.intro
  all_goals (as_aux_lemma => kernel_rfl)
theorem writeMore_nm : Tryz.pinned.checked.prog.funcNamed Rows.writeMoreRow.func = some 6 := by kernel_rfl
theorem writeMore_in : Tryz.f6.isInstance Tryz.pinned.checked.prog Rows.writeMoreRow.origin Rows.writeMoreRow.targs := of_decide_eq_true (by kernel_rfl)
theorem writeMore_wr : Tryz.f6.isWrapper Tryz.pinned.checked.prog Rows.writeMoreRow.wrapper Rows.writeMoreRow.mainSum := by
  unfold Func.isWrapper
  first | (rw [if_pos (by decide +kernel)]; kernel_rfl) | (rw [if_neg (by decide +kernel)]; exact ⟨rfl, rfl⟩)
end Go.Proofs.YtbopkhoalndflaaGreatDoor
