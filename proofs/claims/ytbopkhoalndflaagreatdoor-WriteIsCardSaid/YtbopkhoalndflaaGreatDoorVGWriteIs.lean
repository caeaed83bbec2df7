import Derived.Test.YtbopkhoalndflaaGreatDoorCards
import Derived.Test.YtbopkhoalndflaaGreatDoorVRow4
namespace Go.Proofs.YtbopkhoalndflaaGreatDoor
open Go Go.Rse Go.RowKit Go.ChangeShapes Go.WideShapes Go.Proofs
theorem writeIs_gb : false = Rows.writeIsRow.goesBy Tryz.pinned.checked.prog := by kernel_rfl
set_option maxHeartbeats 20000000 in
theorem writeIs_jf : joinedFacts Tryz.pinned.checked.prog 4 Tryz.f4 Rows.writeIsSpec Rows.writeIsRow = true := by
  unfold joinedFacts
  simp only [Bool.and_eq_true]
  repeat' apply And.intro
  all_goals (as_aux_lemma => kernel_rfl)
theorem writeIs_nm : Tryz.pinned.checked.prog.funcNamed Rows.writeIsRow.func = some 4 := by kernel_rfl
theorem writeIs_in : Tryz.f4.isInstance Tryz.pinned.checked.prog Rows.writeIsRow.origin Rows.writeIsRow.targs := of_decide_eq_true (by kernel_rfl)
theorem writeIs_wr : Tryz.f4.isWrapper Tryz.pinned.checked.prog Rows.writeIsRow.wrapper Rows.writeIsRow.mainSum := by
  unfold Func.isWrapper
  first | (rw [if_pos (by decide +kernel)]; kernel_rfl) | (rw [if_neg (by decide +kernel)]; exact ⟨rfl, rfl⟩)
end Go.Proofs.YtbopkhoalndflaaGreatDoor
