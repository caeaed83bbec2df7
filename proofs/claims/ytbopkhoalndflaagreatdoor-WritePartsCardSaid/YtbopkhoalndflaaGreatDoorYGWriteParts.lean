import Derived.Test.YtbopkhoalndflaaGreatDoorCards
import Derived.Test.YtbopkhoalndflaaGreatDoorYRow4
namespace Go.Proofs.YtbopkhoalndflaaGreatDoor
open Go Go.Rse Go.RowKit Go.ChangeShapes Go.WideShapes Go.Proofs
theorem writeParts_gb : false = Rows.writePartsRow.goesBy Tryz.pinned.checked.prog := by kernel_rfl
set_option maxHeartbeats 20000000 in
theorem writeParts_jf : joinedFacts Tryz.pinned.checked.prog 9 Tryz.f9 Rows.writePartsSpec Rows.writePartsRow = true := by
  unfold joinedFacts
  simp only [Bool.and_eq_true]
  repeat' apply And.intro
  all_goals (as_aux_lemma => kernel_rfl)
theorem writeParts_nm : Tryz.pinned.checked.prog.funcNamed Rows.writePartsRow.func = some 9 := by kernel_rfl
theorem writeParts_in : Tryz.f9.isInstance Tryz.pinned.checked.prog Rows.writePartsRow.origin Rows.writePartsRow.targs := of_decide_eq_true (by kernel_rfl)
theorem writeParts_wr : Tryz.f9.isWrapper Tryz.pinned.checked.prog Rows.writePartsRow.wrapper Rows.writePartsRow.mainSum := by
  unfold Func.isWrapper
  first | (rw [if_pos (by decide +kernel)]; kernel_rfl) | (rw [if_neg (by decide +kernel)]; exact ⟨rfl, rfl⟩)
end Go.Proofs.YtbopkhoalndflaaGreatDoor
