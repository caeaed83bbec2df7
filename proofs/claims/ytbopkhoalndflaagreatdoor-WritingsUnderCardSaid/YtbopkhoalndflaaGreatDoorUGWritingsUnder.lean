import Derived.Test.YtbopkhoalndflaaGreatDoorCards
import Derived.Test.YtbopkhoalndflaaGreatDoorURow4
namespace Go.Proofs.YtbopkhoalndflaaGreatDoor
open Go Go.Rse Go.RowKit Go.ChangeShapes Go.WideShapes Go.Proofs
theorem writingsUnder_gb : false = Rows.writingsUnderRow.goesBy Tryz.pinned.checked.prog := by kernel_rfl
set_option maxHeartbeats 20000000 in
theorem writingsUnder_jf : joinedFacts Tryz.pinned.checked.prog 8 Tryz.f8 Rows.writingsUnderSpec Rows.writingsUnderRow = true := by
  unfold joinedFacts
  simp only [Bool.and_eq_true]
  repeat' apply And.intro
  all_goals (as_aux_lemma => kernel_rfl)
theorem writingsUnder_nm : Tryz.pinned.checked.prog.funcNamed Rows.writingsUnderRow.func = some 8 := by kernel_rfl
theorem writingsUnder_in : Tryz.f8.isInstance Tryz.pinned.checked.prog Rows.writingsUnderRow.origin Rows.writingsUnderRow.targs := of_decide_eq_true (by kernel_rfl)
theorem writingsUnder_wr : Tryz.f8.isWrapper Tryz.pinned.checked.prog Rows.writingsUnderRow.wrapper Rows.writingsUnderRow.mainSum := by
  unfold Func.isWrapper
  first | (rw [if_pos (by decide +kernel)]; kernel_rfl) | (rw [if_neg (by decide +kernel)]; exact ⟨rfl, rfl⟩)
end Go.Proofs.YtbopkhoalndflaaGreatDoor
