/-
  Walks: the statement on combinations by number, cuts and additions.
-/
import Derived.Test.YteecbmgddacioaaRef9b
namespace Go.Rse
open Go Go.Proofs
set_option linter.unusedVariables false
set_option linter.unusedSimpArgs false
attribute [local irreducible] Pur StepA StepM Ex X ExG Fn Imp LeV LeB FnO It YStep
theorem C_ints_eq (a : List Int) (h : a.length ≤ 4000000000) : Fn Try.prog 37 [intsA a, intsA a] (.bool true) := by
  have := C_tactuskit_SameInts a a h; simpa using this
theorem C_bools_eq (a : List Bool) (h : a.length ≤ 4000000000) : Fn Try.prog 48 [boolsA a, boolsA a] (.bool true) := by
  have := C_tactuskit_SameBools a a h; simpa using this
attribute [local irreducible] mkC mkA mkE ofL ofE
set_option maxHeartbeats 2000000 in
theorem C_tactuslaw09_DotChosen (m : Mn) (l : List Sg) (n : Int) (ch : List Int) (hn : -9223372036854775808 ≤ n ∧ n ≤ 9223372036854775807) : Fn Try.prog 5 [mnA m, sgsA l, iv n, intsA ch] (.bool true) := by
  refine Fn.intro (ts := [(0, mnA m), (1, sgsA l), (2, iv n), (3, intsA ch)]) (rv := [.tmp 8]) (n := 99) (by kernel_rfl) Try.func5 rfl Try.ntmps5 rfl rfl rfl (by simp) (fun g w d => ?_)
  refine X.seq ?_
  refine X.region ?_
  refine Ex.stepA (A_box_agg (k := 4) rfl rfl) rfl rfl ?_
  refine Ex.pur (P_assign rfl) rfl ?_
  refine Ex.nil ?_
  refine X.seq ?_
  refine X.seq ?_
  refine X.region ?_
  refine Ex.pur (P_move rfl) rfl ?_
  first
    | refine Ex.pur (P_len_sl rfl sl41) rfl ?_
    | refine Ex.pur (P_len_own rfl rfl sl41) rfl ?_
    | refine Ex.pur (P_len_nils rfl sl41) rfl ?_
  refine Ex.pur (P_gtr rfl rfl) rfl ?_
  refine Ex.pur (P_move rfl) rfl ?_
  refine Ex.gstart (t := 24) false rfl ?_
  refine ExG.step rfl rfl rfl (fun hg => Pur.stepA (P_move rfl)) rfl ?_
  first
    | refine ExG.step rfl rfl rfl (fun hg => Pur.stepA (P_len_sl rfl sl29)) rfl ?_
    | refine ExG.step rfl rfl rfl (fun hg => Pur.stepA (P_len_own rfl rfl sl29)) rfl ?_
    | refine ExG.step rfl rfl rfl (fun hg => Pur.stepA (P_len_nils rfl sl29)) rfl ?_
  refine ExG.step rfl rfl rfl (fun hg => Pur.stepA (P_gtr rfl rfl)) rfl ?_
  refine ExG.done ?_
  first
    | refine Ex.pur (P_and rfl rfl) rfl ?_
    | refine Ex.pur (P_or rfl rfl) rfl ?_
    | (refine Ex.pur (P_pick_true rfl ?_ rfl) rfl ?_; iterate 1 (· first | assumption | rfl | omega | (simp; done) | (simp; omega) | (simp_all; done)))
    | (refine Ex.pur (P_pick_false rfl ?_ rfl) rfl ?_; iterate 1 (· first | assumption | rfl | omega | (simp; done) | (simp; omega) | (simp_all; done)))
  refine Ex.nil ?_
  refine X.cond rfl (fun hc1 => ?_) (fun hc1 => ?_)
  · try simp only [decide_eq_true_eq, decide_eq_false_iff_not, Bool.not_eq_true', Bool.not_eq_false', Bool.and_eq_true, Bool.or_eq_true, Bool.and_eq_false_iff, Bool.or_eq_false_iff, Int.not_lt, Int.not_le, Decidable.not_not] at hc1
    refine X.seq ?_
    refine X.region ?_
    refine Ex.call rfl rfl rfl C_tactuslaw09_awake rfl ?_
    refine Ex.pur (P_assign rfl) rfl ?_
    refine Ex.nil ?_
    refine X.ret ?_
    refine RetQ.ret (.one (.tmp rfl (LeV.eq ?_)))
    all_goals (first | rfl | simp)
  try simp only [decide_eq_true_eq, decide_eq_false_iff_not, Bool.not_eq_true', Bool.not_eq_false', Bool.and_eq_true, Bool.or_eq_true, Bool.and_eq_false_iff, Bool.or_eq_false_iff, Int.not_lt, Int.not_le, Decidable.not_not] at hc1
  refine X.skip ?_
  refine X.seq ?_
  refine X.region ?_
  refine Ex.pur (P_move rfl) rfl ?_
  refine Ex.call rfl rfl rfl (C_tactuslaw09_own l (by omega)) rfl ?_
  refine Ex.pur (P_move rfl) rfl ?_
  refine Ex.call rfl rfl rfl (C_tactuskit_OwnInts ch (by omega)) rfl ?_
  refine Ex.pur (P_assign rfl) rfl ?_
  refine Ex.pur (P_assign rfl) rfl ?_
  refine Ex.nil ?_
  refine X.seq ?_
  refine X.region ?_
  first
    | refine Ex.pur (P_load_box_all rfl rfl rfl rfl ty23) rfl ?_
    | refine Ex.pur (P_load_ept_all rfl rfl rfl ty23) rfl ?_
    | refine Ex.pur (P_load_ept_part rfl rfl rfl rfl ty23) rfl ?_
    | refine Ex.pur (P_load_box_part rfl rfl rfl rfl ty23) rfl ?_
  refine Ex.pur (P_move rfl) rfl ?_
  refine Ex.pur (P_move rfl) rfl ?_
  refine Ex.call rfl rfl rfl (C_dot_Of m l (by omega) n) rfl ?_
  refine Ex.pur (P_move rfl) rfl ?_
  refine Ex.pur (P_extract rfl rfl) rfl ?_
  refine Ex.pur (P_extract rfl rfl) rfl ?_
  refine Ex.pur (P_assign rfl) rfl ?_
  refine Ex.pur (P_assign rfl) rfl ?_
  refine Ex.nil ?_
  refine X.seq ?_
  refine X.region ?_
  first
    | refine Ex.pur (P_load_box_all rfl rfl rfl rfl ty23) rfl ?_
    | refine Ex.pur (P_load_ept_all rfl rfl rfl ty23) rfl ?_
    | refine Ex.pur (P_load_ept_part rfl rfl rfl rfl ty23) rfl ?_
    | refine Ex.pur (P_load_box_part rfl rfl rfl rfl ty23) rfl ?_
  refine Ex.pur (P_move rfl) rfl ?_
  refine Ex.pur (P_move rfl) rfl ?_
  refine Ex.call rfl rfl rfl (C_tactusref09_Of m l (by omega) n) rfl ?_
  refine Ex.pur (P_move rfl) rfl ?_
  refine Ex.pur (P_extract rfl rfl) rfl ?_
  refine Ex.pur (P_extract rfl rfl) rfl ?_
  refine Ex.pur (P_assign rfl) rfl ?_
  refine Ex.pur (P_assign rfl) rfl ?_
  refine Ex.nil ?_
  refine X.seq ?_
  refine X.seq ?_
  refine X.region ?_
  refine Ex.pur (P_move rfl) rfl ?_
  refine Ex.pur (P_move rfl) rfl ?_
  refine Ex.call rfl rfl rfl (C_ints_eq (ofL m l n) (by have := ofL_len m l n; omega)) rfl ?_
  refine Ex.pur (P_not rfl) rfl ?_
  refine Ex.pur (P_move rfl) rfl ?_
  refine Ex.gstart (t := 52) false rfl ?_
  refine ExG.step rfl rfl rfl (fun hg => Pur.stepA (P_move rfl)) rfl ?_
  refine ExG.step rfl rfl rfl (fun hg => Pur.stepA (P_move rfl)) rfl ?_
  refine ExG.step rfl rfl rfl (fun hg => Pur.stepA (P_neq rfl rfl)) rfl ?_
  refine ExG.done ?_
  first
    | refine Ex.pur (P_and rfl rfl) rfl ?_
    | refine Ex.pur (P_or rfl rfl) rfl ?_
    | (refine Ex.pur (P_pick_true rfl ?_ rfl) rfl ?_; iterate 1 (· first | assumption | rfl | omega | (simp; done) | (simp; omega) | (simp_all; done)))
    | (refine Ex.pur (P_pick_false rfl ?_ rfl) rfl ?_; iterate 1 (· first | assumption | rfl | omega | (simp; done) | (simp; omega) | (simp_all; done)))
  refine Ex.nil ?_
  refine X.cond rfl (fun hc2 => ?_) (fun hc2 => ?_)
  · try simp only [decide_eq_true_eq, decide_eq_false_iff_not, Bool.not_eq_true', Bool.not_eq_false', Bool.and_eq_true, Bool.or_eq_true, Bool.and_eq_false_iff, Bool.or_eq_false_iff, Int.not_lt, Int.not_le, Decidable.not_not] at hc2
    simp at hc2
  try simp only [decide_eq_true_eq, decide_eq_false_iff_not, Bool.not_eq_true', Bool.not_eq_false', Bool.and_eq_true, Bool.or_eq_true, Bool.and_eq_false_iff, Bool.or_eq_false_iff, Int.not_lt, Int.not_le, Decidable.not_not] at hc2
  refine X.skip ?_
  refine X.seq ?_
  refine X.region ?_
  first
    | refine Ex.pur (P_load_box_all rfl rfl rfl rfl ty23) rfl ?_
    | refine Ex.pur (P_load_ept_all rfl rfl rfl ty23) rfl ?_
    | refine Ex.pur (P_load_ept_part rfl rfl rfl rfl ty23) rfl ?_
    | refine Ex.pur (P_load_box_part rfl rfl rfl rfl ty23) rfl ?_
  refine Ex.pur (P_move rfl) rfl ?_
  refine Ex.pur (P_move rfl) rfl ?_
  refine Ex.call rfl rfl rfl (C_dot_Marks m l (by omega) ch) rfl ?_
  refine Ex.pur (P_move rfl) rfl ?_
  refine Ex.pur (P_extract rfl rfl) rfl ?_
  refine Ex.pur (P_extract rfl rfl) rfl ?_
  refine Ex.pur (P_extract rfl rfl) rfl ?_
  refine Ex.pur (P_assign rfl) rfl ?_
  refine Ex.pur (P_assign rfl) rfl ?_
  refine Ex.pur (P_assign rfl) rfl ?_
  refine Ex.nil ?_
  refine X.seq ?_
  refine X.region ?_
  first
    | refine Ex.pur (P_load_box_all rfl rfl rfl rfl ty23) rfl ?_
    | refine Ex.pur (P_load_ept_all rfl rfl rfl ty23) rfl ?_
    | refine Ex.pur (P_load_ept_part rfl rfl rfl rfl ty23) rfl ?_
    | refine Ex.pur (P_load_box_part rfl rfl rfl rfl ty23) rfl ?_
  refine Ex.pur (P_move rfl) rfl ?_
  refine Ex.pur (P_move rfl) rfl ?_
  refine Ex.call rfl rfl rfl (C_tactusref09_Marks m l (by omega) ch (by omega)) rfl ?_
  refine Ex.pur (P_move rfl) rfl ?_
  refine Ex.pur (P_extract rfl rfl) rfl ?_
  refine Ex.pur (P_extract rfl rfl) rfl ?_
  refine Ex.pur (P_extract rfl rfl) rfl ?_
  refine Ex.pur (P_assign rfl) rfl ?_
  refine Ex.pur (P_assign rfl) rfl ?_
  refine Ex.pur (P_assign rfl) rfl ?_
  refine Ex.nil ?_
  refine X.seq ?_
  refine X.region ?_
  refine Ex.pur (P_move rfl) rfl ?_
  refine Ex.pur (P_move rfl) rfl ?_
  refine Ex.call rfl rfl rfl (C_ints_eq (mkC m l ch) (by have := mkC_len m l ch; omega)) rfl ?_
  refine Ex.pur (P_move rfl) rfl ?_
  refine Ex.gstart (t := 76) true rfl ?_
  refine ExG.step rfl rfl rfl (fun hg => Pur.stepA (P_move rfl)) rfl ?_
  refine ExG.step rfl rfl rfl (fun hg => Pur.stepA (P_move rfl)) rfl ?_
  refine ExG.step rfl rfl rfl (fun hg => A_call rfl rfl rfl (LeL.refl _) (C_bools_eq (mkA m l ch) (by have := mkA_len m l ch; omega))) rfl ?_
  refine ExG.done ?_
  first
    | refine Ex.pur (P_and rfl rfl) rfl ?_
    | refine Ex.pur (P_or rfl rfl) rfl ?_
    | (refine Ex.pur (P_pick_true rfl ?_ rfl) rfl ?_; iterate 1 (· first | assumption | rfl | omega | (simp; done) | (simp; omega) | (simp_all; done)))
    | (refine Ex.pur (P_pick_false rfl ?_ rfl) rfl ?_; iterate 1 (· first | assumption | rfl | omega | (simp; done) | (simp; omega) | (simp_all; done)))
  refine Ex.pur (P_move rfl) rfl ?_
  refine Ex.gstart (t := 81) true rfl ?_
  refine ExG.step rfl rfl rfl (fun hg => Pur.stepA (P_move rfl)) rfl ?_
  refine ExG.step rfl rfl rfl (fun hg => Pur.stepA (P_move rfl)) rfl ?_
  refine ExG.step rfl rfl rfl (fun hg => Pur.stepA (P_eql rfl rfl)) rfl ?_
  refine ExG.done ?_
  first
    | refine Ex.pur (P_and rfl rfl) rfl ?_
    | refine Ex.pur (P_or rfl rfl) rfl ?_
    | (refine Ex.pur (P_pick_true rfl ?_ rfl) rfl ?_; iterate 1 (· first | assumption | rfl | omega | (simp; done) | (simp; omega) | (simp_all; done)))
    | (refine Ex.pur (P_pick_false rfl ?_ rfl) rfl ?_; iterate 1 (· first | assumption | rfl | omega | (simp; done) | (simp; omega) | (simp_all; done)))
  refine Ex.pur (P_move rfl) rfl ?_
  refine Ex.gstart (t := 86) true rfl ?_
  refine ExG.step rfl rfl rfl (fun hg => Pur.stepA (P_move rfl)) rfl ?_
  refine ExG.step rfl rfl rfl (fun hg => Pur.stepA (P_move rfl)) rfl ?_
  refine ExG.step rfl rfl rfl (fun hg => A_call rfl rfl rfl (LeL.refl _) (C_tactuslaw09_same l (by omega))) rfl ?_
  refine ExG.done ?_
  first
    | refine Ex.pur (P_and rfl rfl) rfl ?_
    | refine Ex.pur (P_or rfl rfl) rfl ?_
    | (refine Ex.pur (P_pick_true rfl ?_ rfl) rfl ?_; iterate 1 (· first | assumption | rfl | omega | (simp; done) | (simp; omega) | (simp_all; done)))
    | (refine Ex.pur (P_pick_false rfl ?_ rfl) rfl ?_; iterate 1 (· first | assumption | rfl | omega | (simp; done) | (simp; omega) | (simp_all; done)))
  refine Ex.pur (P_move rfl) rfl ?_
  refine Ex.gstart (t := 91) true rfl ?_
  refine ExG.step rfl rfl rfl (fun hg => Pur.stepA (P_move rfl)) rfl ?_
  refine ExG.step rfl rfl rfl (fun hg => Pur.stepA (P_move rfl)) rfl ?_
  refine ExG.step rfl rfl rfl (fun hg => A_call rfl rfl rfl (LeL.refl _) (C_ints_eq ch (by omega))) rfl ?_
  refine ExG.done ?_
  first
    | refine Ex.pur (P_and rfl rfl) rfl ?_
    | refine Ex.pur (P_or rfl rfl) rfl ?_
    | (refine Ex.pur (P_pick_true rfl ?_ rfl) rfl ?_; iterate 1 (· first | assumption | rfl | omega | (simp; done) | (simp; omega) | (simp_all; done)))
    | (refine Ex.pur (P_pick_false rfl ?_ rfl) rfl ?_; iterate 1 (· first | assumption | rfl | omega | (simp; done) | (simp; omega) | (simp_all; done)))
  refine Ex.pur (P_move rfl) rfl ?_
  refine Ex.gstart (t := 96) true rfl ?_
  refine ExG.step rfl rfl rfl (fun hg => A_call rfl rfl rfl (LeL.refl _) C_tactuslaw09_awake) rfl ?_
  refine ExG.done ?_
  first
    | refine Ex.pur (P_and rfl rfl) rfl ?_
    | refine Ex.pur (P_or rfl rfl) rfl ?_
    | (refine Ex.pur (P_pick_true rfl ?_ rfl) rfl ?_; iterate 1 (· first | assumption | rfl | omega | (simp; done) | (simp; omega) | (simp_all; done)))
    | (refine Ex.pur (P_pick_false rfl ?_ rfl) rfl ?_; iterate 1 (· first | assumption | rfl | omega | (simp; done) | (simp; omega) | (simp_all; done)))
  refine Ex.pur (P_assign rfl) rfl ?_
  refine Ex.nil ?_
  refine X.ret ?_
  refine RetQ.ret (.one (.tmp rfl (LeV.eq ?_)))
  all_goals (first | rfl | simp)
end Go.Rse
