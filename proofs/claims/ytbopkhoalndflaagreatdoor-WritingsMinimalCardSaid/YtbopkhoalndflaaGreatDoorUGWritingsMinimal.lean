import Derived.Test.YtbopkhoalndflaaGreatDoorCards
import Derived.Test.YtbopkhoalndflaaGreatDoorURow4
namespace Go.Proofs.YtbopkhoalndflaaGreatDoor
open Go Go.Rse Go.RowKit Go.ChangeShapes Go.WideShapes Go.Proofs
theorem writingsMinimal_gb : false = Rows.writingsMinimalRow.goesBy Tryz.pinned.checked.prog := by kernel_rfl
set_option maxHeartbeats 20000000 in
theorem writingsMinimal_jf : joinedFacts Tryz.pinned.checked.prog 3 Tryz.f3 Rows.writingsMinimalSpec Rows.writingsMinimalRow = true := by
  unfold joinedFacts
  simp only [Bool.and_eq_true]
  repeat' apply And.intro
  all_goals (as_aux_lemma => kernel_rfl)
theorem writingsMinimal_nm : Tryz.pinned.checked.prog.funcNamed Rows.writingsMinimalRow.func = some 3 := by kernel_rfl
theorem writingsMinimal_in : Tryz.f3.isInstance Tryz.pinned.checked.prog Rows.writingsMinimalRow.origin Rows.writingsMinimalRow.targs := of_decide_eq_true (by kernel_rfl)
theorem writingsMinimal_wr : Tryz.f3.isWrapper Tryz.pinned.checked.prog Rows.writingsMinimalRow.wrapper Rows.writingsMinimalRow.mainSum := by
  unfold Func.isWrapper
  first | (rw [if_pos (by decide +kernel)]; kernel_rfl) | (rw [if_neg (by decide +kernel)]; exact ⟨rfl, rfl⟩)
end Go.Proofs.YtbopkhoalndflaaGreatDoor
