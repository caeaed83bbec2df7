import Derived.Test.YtbopkhoalndflaaGreatDoorCards
import Derived.Test.YtbopkhoalndflaaGreatDoorURow4
namespace Go.Proofs.YtbopkhoalndflaaGreatDoor
open Go Go.Rse Go.RowKit Go.ChangeShapes Go.WideShapes Go.Proofs
theorem writingsAll_gb : false = Rows.writingsAllRow.goesBy Tryz.pinned.checked.prog := by kernel_rfl
set_option maxHeartbeats 20000000 in
theorem writingsAll_jf : joinedFacts Tryz.pinned.checked.prog 7 Tryz.f7 Rows.writingsAllSpec Rows.writingsAllRow = true := by
  unfold joinedFacts
  simp only [Bool.and_eq_true]
  repeat' apply And.intro
  all_goals (as_aux_lemma => kernel_rfl)
theorem writingsAll_nm : Tryz.pinned.checked.prog.funcNamed Rows.writingsAllRow.func = some 7 := by kernel_rfl
theorem writingsAll_in : Tryz.f7.isInstance Tryz.pinned.checked.prog Rows.writingsAllRow.origin Rows.writingsAllRow.targs := of_decide_eq_true (by kernel_rfl)
theorem writingsAll_wr : Tryz.f7.isWrapper Tryz.pinned.checked.prog Rows.writingsAllRow.wrapper Rows.writingsAllRow.mainSum := by
  unfold Func.isWrapper
  first | (rw [if_pos (by decide +kernel)]; kernel_rfl) | (rw [if_neg (by decide +kernel)]; exact ⟨rfl, rfl⟩)
end Go.Proofs.YtbopkhoalndflaaGreatDoor
