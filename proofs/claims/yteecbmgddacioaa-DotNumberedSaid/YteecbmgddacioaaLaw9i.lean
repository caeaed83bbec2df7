/-
  Walks: the statement on combinations with different numbers.
-/
import Derived.Test.YteecbmgddacioaaNum3
namespace Go.Rse
open Go Go.Proofs
set_option linter.unusedVariables false
set_option linter.unusedSimpArgs false
attribute [local irreducible] Pur StepA StepM Ex X ExG Fn Imp LeV LeB FnO It YStep
attribute [local irreducible] mnsD mdRun mMade ruleD ofD cntV cntE mkC mkA mkE fnd
set_option maxHeartbeats 4000000 in
set_option maxRecDepth 100000 in
theorem C_tactuslaw09_DotNumbered (n : Int) (l : List Int) (hn : -9223372036854775808 ≤ n ∧ n ≤ 9223372036854775807) (hr : ∀ x, x ∈ l → -9223372036854775808 ≤ x ∧ x ≤ 9223372036854775807) : Fn Try.prog 8 [iv n, intsA l] (.bool true) := by
  have hm : Fn Try.prog 22 [iv n] (mnA (mMade n)) := by unfold mMade; exact C_tactuskit_Mens n hn
  have hck := mMade_ck n
  generalize mMade n = m at hm hck
  have hg := mdRun_gd l
  have hlen := mdRun_len l
  have hR := C_dot_Rule m (mdRun l) (by omega)
  rw [gd_ck hck hg, if_pos rfl] at hR
  have hml := mnsD_len m (mdRun l)
  have hcv := cntV_le (m := m) (l := mdRun l)
  have hOf : ∀ k : Nat, cntE m (mdRun l) = 0 → (k : Int) < cntV m (mdRun l) → Fn Try.prog 44 [mnA m, sgsA (mdRun l), iv (k : Int)] (.tup [intsA (ofD (mnsD m (mdRun l)) k), iv 0]) := fun k h0 h1 => by
    have h := C_dot_Of m (mdRun l) (by omega) k
    rw [(num_of_ok h0 h1).1, (num_of_ok h0 h1).2] at h; exact h
  have hMk : ∀ k : Nat, cntE m (mdRun l) = 0 → (k : Int) < cntV m (mdRun l) → Fn Try.prog 46 [mnA m, sgsA (mdRun l), intsA (ofD (mnsD m (mdRun l)) k)] (.tup [intsA (mkC m (mdRun l) (ofD (mnsD m (mdRun l)) k)), boolsA (mkA m (mdRun l) (ofD (mnsD m (mdRun l)) k)), iv 0]) := fun k h0 h1 => by
    have h := C_dot_Marks m (mdRun l) (by omega) (ofD (mnsD m (mdRun l)) k)
    rw [num_mk hck hg h0 h1] at h; exact h
  have hod : ∀ n : Int, (ofD (mnsD m (mdRun l)) n).length = (mnsD m (mdRun l)).length := fun n => ofD_len2 _ _
  refine Fn.intro (ts := [(0, iv n), (1, intsA l)]) (rv := [.tmp 4]) (n := 109) (by kernel_rfl) Try.func8 rfl Try.ntmps8 rfl rfl rfl (by simp) (fun g w d => ?_)
  refine X.seq ?_
  refine X.region ?_
  refine Ex.pur (P_assign rfl) rfl ?_
  refine Ex.nil ?_
  refine X.seq ?_
  refine X.region ?_
  refine Ex.call rfl rfl rfl C_tactuslaw09_DotKnown rfl ?_
  refine Ex.pur (P_assign rfl) rfl ?_
  refine Ex.nil ?_
  refine X.seq ?_
  refine X.region ?_
  refine Ex.pur (P_move rfl) rfl ?_
  refine Ex.call rfl rfl rfl hm rfl ?_
  refine Ex.stepA (A_alloc (k := 6) zc23) rfl rfl ?_
  refine Ex.stepM (M_store_agg rfl rfl rfl rfl ty23 rfl (leB rfl)) ?_
  refine Ex.nil ?_
  refine X.seq ?_
  refine X.region ?_
  refine Ex.pur (P_move rfl) rfl ?_
  refine Ex.call rfl rfl rfl (C_tactuslaw09_Made l hr) rfl ?_
  refine Ex.pur (P_assign rfl) rfl ?_
  refine Ex.nil ?_
  refine X.seq ?_
  refine X.region ?_
  first
    | refine Ex.pur (P_load_box_all rfl rfl rfl rfl ty23) rfl ?_
    | refine Ex.pur (P_load_ept_all rfl rfl rfl ty23) rfl ?_
    | refine Ex.pur (P_load_ept_part rfl rfl rfl rfl ty23) rfl ?_
    | refine Ex.pur (P_load_box_part rfl rfl rfl rfl ty23) rfl ?_
  refine Ex.pur (P_move rfl) rfl ?_
  refine Ex.call rfl rfl rfl (C_dot_Count m (mdRun l) (by omega)) rfl ?_
  refine Ex.pur (P_move rfl) rfl ?_
  refine Ex.pur (P_extract rfl rfl) rfl ?_
  refine Ex.pur (P_extract rfl rfl) rfl ?_
  refine Ex.pur (P_assign rfl) rfl ?_
  refine Ex.pur (P_assign rfl) rfl ?_
  refine Ex.nil ?_
  refine X.seq ?_
  refine X.region ?_
  first
    | refine Ex.pur (P_load_box_all rfl rfl rfl rfl ty23) rfl ?_
    | refine Ex.pur (P_load_ept_all rfl rfl rfl ty23) rfl ?_
    | refine Ex.pur (P_load_ept_part rfl rfl rfl rfl ty23) rfl ?_
    | refine Ex.pur (P_load_box_part rfl rfl rfl rfl ty23) rfl ?_
  refine Ex.pur (P_move rfl) rfl ?_
  refine Ex.call rfl rfl rfl (C_tactusref09_Count m (mdRun l) (by omega)) rfl ?_
  refine Ex.pur (P_move rfl) rfl ?_
  refine Ex.pur (P_extract rfl rfl) rfl ?_
  refine Ex.pur (P_extract rfl rfl) rfl ?_
  refine Ex.pur (P_assign rfl) rfl ?_
  refine Ex.pur (P_assign rfl) rfl ?_
  refine Ex.nil ?_
  refine X.seq ?_
  refine X.seq ?_
  refine X.region ?_
  refine Ex.pur (P_move rfl) rfl ?_
  refine Ex.pur (P_move rfl) rfl ?_
  refine Ex.pur (P_neq rfl rfl) rfl ?_
  refine Ex.pur (P_move rfl) rfl ?_
  refine Ex.gstart (t := 42) false rfl ?_
  refine ExG.step rfl rfl rfl (fun hg => Pur.stepA (P_move rfl)) rfl ?_
  refine ExG.step rfl rfl rfl (fun hg => Pur.stepA (P_move rfl)) rfl ?_
  refine ExG.step rfl rfl rfl (fun hg => Pur.stepA (P_neq rfl rfl)) rfl ?_
  refine ExG.done ?_
  first
    | refine Ex.pur (P_and rfl rfl) rfl ?_
    | refine Ex.pur (P_or rfl rfl) rfl ?_
    | (refine Ex.pur (P_pick_true rfl ?_ rfl) rfl ?_; iterate 1 (· first | assumption | rfl | omega | (simp; done) | (simp; omega) | (simp_all; done)))
    | (refine Ex.pur (P_pick_false rfl ?_ rfl) rfl ?_; iterate 1 (· first | assumption | rfl | omega | (simp; done) | (simp; omega) | (simp_all; done)))
  refine Ex.nil ?_
  refine X.cond rfl (fun hc1 => ?_) (fun hc1 => ?_)
  · try simp only [decide_eq_true_eq, decide_eq_false_iff_not, Bool.not_eq_true', Bool.not_eq_false', Bool.and_eq_true, Bool.or_eq_true, Bool.and_eq_false_iff, Bool.or_eq_false_iff, Int.not_lt, Int.not_le, Decidable.not_not] at hc1
    (first | (simp at hc1; done) | omega)
  try simp only [decide_eq_true_eq, decide_eq_false_iff_not, Bool.not_eq_true', Bool.not_eq_false', Bool.and_eq_true, Bool.or_eq_true, Bool.and_eq_false_iff, Bool.or_eq_false_iff, Int.not_lt, Int.not_le, Decidable.not_not] at hc1
  refine X.skip ?_
  refine X.seq ?_
  refine X.seq ?_
  refine X.region ?_
  refine Ex.pur (P_move rfl) rfl ?_
  refine Ex.pur (P_neq rfl rfl) rfl ?_
  refine Ex.nil ?_
  refine X.cond rfl (fun hc2 => ?_) (fun hc2 => ?_)
  · try simp only [decide_eq_true_eq, decide_eq_false_iff_not, Bool.not_eq_true', Bool.not_eq_false', Bool.and_eq_true, Bool.or_eq_true, Bool.and_eq_false_iff, Bool.or_eq_false_iff, Int.not_lt, Int.not_le, Decidable.not_not] at hc2
    have h15 : cntE m (mdRun l) = 15 := by
      have h0 := gd_ck hck hg
      unfold cntE at hc2 ⊢; rw [if_pos h0] at hc2 ⊢; split at hc2
      · rw [if_pos (by assumption)]
      · exact absurd rfl hc2
    refine X.seq ?_
    refine X.region ?_
    refine Ex.pur (P_move rfl) rfl ?_
    refine Ex.pur (P_move rfl) rfl ?_
    refine Ex.gstart (t := 50) true rfl ?_
    refine ExG.step rfl rfl rfl (fun hg => Pur.stepA (P_move rfl)) rfl ?_
    refine ExG.step rfl rfl rfl (fun hg => Pur.stepA (P_eql rfl rfl)) rfl ?_
    refine ExG.done ?_
    first
      | refine Ex.pur (P_and rfl rfl) rfl ?_
      | refine Ex.pur (P_or rfl rfl) rfl ?_
      | (refine Ex.pur (P_pick_true rfl ?_ rfl) rfl ?_; iterate 1 (· first | assumption | rfl | omega | (simp; done) | (simp; omega) | (simp_all; done)))
      | (refine Ex.pur (P_pick_false rfl ?_ rfl) rfl ?_; iterate 1 (· first | assumption | rfl | omega | (simp; done) | (simp; omega) | (simp_all; done)))
    refine Ex.pur (P_assign rfl) rfl ?_
    refine Ex.nil ?_
    refine X.ret ?_
    refine RetQ.ret (.one (.tmp rfl (LeV.eq ?_)))
    all_goals (rw [h15]; rfl)
  try simp only [decide_eq_true_eq, decide_eq_false_iff_not, Bool.not_eq_true', Bool.not_eq_false', Bool.and_eq_true, Bool.or_eq_true, Bool.and_eq_false_iff, Bool.or_eq_false_iff, Int.not_lt, Int.not_le, Decidable.not_not] at hc2
  have hq := num_of hck hg hc2
  obtain ⟨n0, hn0, hn1⟩ := hq
  refine X.skip ?_
  refine X.seq ?_
  refine X.region ?_
  first
    | refine Ex.pur (P_load_box_all rfl rfl rfl rfl ty23) rfl ?_
    | refine Ex.pur (P_load_ept_all rfl rfl rfl ty23) rfl ?_
    | refine Ex.pur (P_load_ept_part rfl rfl rfl rfl ty23) rfl ?_
    | refine Ex.pur (P_load_box_part rfl rfl rfl rfl ty23) rfl ?_
  refine Ex.pur (P_move rfl) rfl ?_
  refine Ex.call rfl rfl rfl hR rfl ?_
  refine Ex.pur (P_move rfl) rfl ?_
  refine Ex.pur (P_extract rfl rfl) rfl ?_
  refine Ex.pur (P_extract rfl rfl) rfl ?_
  refine Ex.pur (P_assign rfl) rfl ?_
  refine Ex.pur (P_assign rfl) rfl ?_
  refine Ex.nil ?_
  refine X.seq ?_
  refine X.seq ?_
  refine X.region ?_
  refine Ex.pur (P_move rfl) rfl ?_
  refine Ex.pur (P_neq rfl rfl) rfl ?_
  refine Ex.nil ?_
  refine X.cond rfl (fun hc3 => ?_) (fun hc3 => ?_)
  · try simp only [decide_eq_true_eq, decide_eq_false_iff_not, Bool.not_eq_true', Bool.not_eq_false', Bool.and_eq_true, Bool.or_eq_true, Bool.and_eq_false_iff, Bool.or_eq_false_iff, Int.not_lt, Int.not_le, Decidable.not_not] at hc3
    (first | (simp at hc3; done) | omega)
  try simp only [decide_eq_true_eq, decide_eq_false_iff_not, Bool.not_eq_true', Bool.not_eq_false', Bool.and_eq_true, Bool.or_eq_true, Bool.and_eq_false_iff, Bool.or_eq_false_iff, Int.not_lt, Int.not_le, Decidable.not_not] at hc3
  refine X.skip ?_
  refine X.seq ?_
  refine X.region ?_
  refine Ex.pur (P_assign rfl) rfl ?_
  refine Ex.nil ?_
  refine X.seq ?_
  refine X.region ?_
  refine Ex.pur (P_assign rfl) rfl ?_
  refine Ex.nil ?_
  refine X.seq ?_
  refine X.seq ?_
  refine X.region ?_
  refine Ex.pur (P_assign rfl) rfl ?_
  refine Ex.nil ?_
  refine X.block ?_
  have hf00 : fnd n0 0 = 0 := by rw [fnd_eq]; rfl
  refine X.loop (ι := Nat) (fun (k : Nat) => ⟨[(5, .bool true), (6, .ptr 6 0 0 0), (7, sgsA (mdRun l)), (10, iv (cntV m (mdRun l))), (12, intsA (ruleD m (mdRun l))), (14, iv (fnd n0 k)), (15, intsA (befN (mnsD m (mdRun l)) k)), (16, iv (k : Int))], [(6, .box (mnE m) 23)]⟩) (fun (k : Nat) => k ≤ (cntV m (mdRun l)).toNat) (fun (k : Nat) => (cntV m (mdRun l)).toNat - k) 0 ?_ ?_ (fun k hk => ?_)
  · exact Imp.of (by (repeat' (first | exact True.intro | (refine And.intro ⟨_, rfl, ?_⟩ ?_; (first | exact LeV.refl _ | exact LeV.any _ | exact LeB.refl _ | (refine LeV.eq ?_; simp; done) | (refine LeV.eq ?_; congr 1; omega) | (refine LeV.eq ?_; dsimp only; congr 1; omega) | (refine LeV.eq (congrArg (AV.int _) ?_); omega) | exact LeV.nils _ | exact LeB.row (by assumption) | (refine LeB.eq ?_; congr 1; omega) | (refine LeB.eq ?_; congr 1; simp only [cond_true, cond_false]; omega)))))) (by (repeat' (first | exact True.intro | (refine And.intro ⟨_, rfl, ?_⟩ ?_; (first | exact LeV.refl _ | exact LeV.any _ | exact LeB.refl _ | (refine LeV.eq ?_; simp; done) | (refine LeV.eq ?_; congr 1; omega) | (refine LeV.eq ?_; dsimp only; congr 1; omega) | (refine LeV.eq (congrArg (AV.int _) ?_); omega) | exact LeV.nils _ | exact LeB.row (by assumption) | (refine LeB.eq ?_; congr 1; omega) | (refine LeB.eq ?_; congr 1; simp only [cond_true, cond_false]; omega))))))
  · first | trivial | omega | (refine ⟨?_, ?_⟩ <;> omega)
  refine X.seq ?_
  refine X.seq ?_
  refine X.region ?_
  refine Ex.pur (P_move rfl) rfl ?_
  refine Ex.pur (P_move rfl) rfl ?_
  refine Ex.pur (P_lss rfl rfl) rfl ?_
  refine Ex.nil ?_
  refine X.cond rfl (fun hc4 => ?_) (fun hc4 => ?_)
  · try simp only [decide_eq_true_eq, decide_eq_false_iff_not, Bool.not_eq_true', Bool.not_eq_false', Bool.and_eq_true, Bool.or_eq_true, Bool.and_eq_false_iff, Bool.or_eq_false_iff, Int.not_lt, Int.not_le, Decidable.not_not] at hc4
    refine X.skip ?_
    refine X.seq ?_
    refine X.block ?_
    refine X.seq ?_
    refine X.region ?_
    first
      | refine Ex.pur (P_load_box_all rfl rfl rfl rfl ty23) rfl ?_
      | refine Ex.pur (P_load_ept_all rfl rfl rfl ty23) rfl ?_
      | refine Ex.pur (P_load_ept_part rfl rfl rfl rfl ty23) rfl ?_
      | refine Ex.pur (P_load_box_part rfl rfl rfl rfl ty23) rfl ?_
    refine Ex.pur (P_move rfl) rfl ?_
    refine Ex.pur (P_move rfl) rfl ?_
    refine Ex.call rfl rfl rfl (hOf k hc2 hc4) rfl ?_
    refine Ex.pur (P_move rfl) rfl ?_
    refine Ex.pur (P_extract rfl rfl) rfl ?_
    refine Ex.pur (P_extract rfl rfl) rfl ?_
    refine Ex.pur (P_assign rfl) rfl ?_
    refine Ex.pur (P_assign rfl) rfl ?_
    refine Ex.nil ?_
    refine X.seq ?_
    refine X.region ?_
    first
      | refine Ex.pur (P_load_box_all rfl rfl rfl rfl ty23) rfl ?_
      | refine Ex.pur (P_load_ept_all rfl rfl rfl ty23) rfl ?_
      | refine Ex.pur (P_load_ept_part rfl rfl rfl rfl ty23) rfl ?_
      | refine Ex.pur (P_load_box_part rfl rfl rfl rfl ty23) rfl ?_
    refine Ex.pur (P_move rfl) rfl ?_
    refine Ex.pur (P_move rfl) rfl ?_
    refine Ex.call rfl rfl rfl (hMk k hc2 hc4) rfl ?_
    refine Ex.pur (P_move rfl) rfl ?_
    refine Ex.pur (P_extract rfl rfl) rfl ?_
    refine Ex.pur (P_extract rfl rfl) rfl ?_
    refine Ex.pur (P_extract rfl rfl) rfl ?_
    refine Ex.pur (P_assign rfl) rfl ?_
    refine Ex.pur (P_assign rfl) rfl ?_
    refine Ex.pur (P_assign rfl) rfl ?_
    refine Ex.nil ?_
    refine X.seq ?_
    refine X.seq ?_
    have hfr := fnd_rng n0 k
    have hk0 := Nat.eq_zero_or_pos k
    rcases hk0 with hk0 | hk0
    · have hg2 : ((!decide ((0 : Int) = 0)) == false) = true := rfl
      have hg6 : ((!decide ((0 : Int) = 0) || !decide ((0 : Int) = 0)) == false) = true := rfl
      have hg9 : (decide ((0 : Int) < (k : Int)) == true) = false := by simp [hk0]
      refine X.region ?_
      refine Ex.pur (P_move rfl) rfl ?_
      refine Ex.pur (P_neq rfl rfl) rfl ?_
      refine Ex.pur (P_move rfl) rfl ?_
      (refine Ex.gT rfl rfl ?_ (Pur.stepA (P_move rfl)) rfl rfl ?_; iterate 1 (· first | exact hg2 | assumption | rfl | (simp_all; done) | omega))
      (refine Ex.gT rfl rfl ?_ (Pur.stepA (P_neq rfl rfl)) rfl rfl ?_; iterate 1 (· first | exact hg2 | assumption | rfl | (simp_all; done) | omega))
      first
        | refine Ex.pur (P_and rfl rfl) rfl ?_
        | refine Ex.pur (P_or rfl rfl) rfl ?_
        | (refine Ex.pur (P_pick_true rfl ?_ rfl) rfl ?_; iterate 1 (· first | assumption | rfl | omega | (simp; done) | (simp; omega) | (simp_all; done)))
        | (refine Ex.pur (P_pick_false rfl ?_ rfl) rfl ?_; iterate 1 (· first | assumption | rfl | omega | (simp; done) | (simp; omega) | (simp_all; done)))
      refine Ex.pur (P_move rfl) rfl ?_
      (refine Ex.gT rfl rfl ?_ (Pur.stepA (P_move rfl)) rfl rfl ?_; iterate 1 (· first | exact hg6 | assumption | rfl | (simp_all; done) | omega))
      (refine Ex.gT rfl rfl ?_ (Pur.stepA (P_gtr rfl rfl)) rfl rfl ?_; iterate 1 (· first | exact hg6 | assumption | rfl | (simp_all; done) | omega))
      (refine Ex.gT rfl rfl ?_ (Pur.stepA (P_move rfl)) rfl rfl ?_; iterate 1 (· first | exact hg6 | assumption | rfl | (simp_all; done) | omega))
      (refine Ex.gF rfl rfl ?_ rfl ?_; · first | exact hg9 | (simp_all; done))
      (refine Ex.gF rfl rfl ?_ rfl ?_; · first | exact hg9 | (simp_all; done))
      (refine Ex.gF rfl rfl ?_ rfl ?_; · first | exact hg9 | (simp_all; done))
      (refine Ex.gF rfl rfl ?_ rfl ?_; · first | exact hg9 | (simp_all; done))
      first
        | (refine Ex.gT rfl rfl ?_ (Pur.stepA (P_and rfl rfl)) rfl rfl ?_; iterate 1 (· first | exact hg6 | assumption | rfl | (simp_all; done) | omega))
        | (refine Ex.gT rfl rfl ?_ (Pur.stepA (P_or rfl rfl)) rfl rfl ?_; iterate 1 (· first | exact hg6 | assumption | rfl | (simp_all; done) | omega))
        | (refine Ex.gT rfl rfl ?_ (Pur.stepA (P_pick_true rfl ?_ rfl)) rfl rfl ?_; iterate 2 (· first | exact hg6 | assumption | rfl | (simp_all; done) | omega))
        | (refine Ex.gT rfl rfl ?_ (Pur.stepA (P_pick_false rfl ?_ rfl)) rfl rfl ?_; iterate 2 (· first | exact hg6 | assumption | rfl | (simp_all; done) | omega))
      first
        | refine Ex.pur (P_and rfl rfl) rfl ?_
        | refine Ex.pur (P_or rfl rfl) rfl ?_
        | (refine Ex.pur (P_pick_true rfl ?_ rfl) rfl ?_; iterate 1 (· first | assumption | rfl | omega | (simp; done) | (simp; omega) | (simp_all; done)))
        | (refine Ex.pur (P_pick_false rfl ?_ rfl) rfl ?_; iterate 1 (· first | assumption | rfl | omega | (simp; done) | (simp; omega) | (simp_all; done)))
      refine Ex.nil ?_
      refine X.cond rfl (fun hc5 => ?_) (fun hc5 => ?_)
      · try simp only [decide_eq_true_eq, decide_eq_false_iff_not, Bool.not_eq_true', Bool.not_eq_false', Bool.and_eq_true, Bool.or_eq_true, Bool.and_eq_false_iff, Bool.or_eq_false_iff, Int.not_lt, Int.not_le, Decidable.not_not] at hc5
        (first | (simp at hc5; done) | omega)
      try simp only [decide_eq_true_eq, decide_eq_false_iff_not, Bool.not_eq_true', Bool.not_eq_false', Bool.and_eq_true, Bool.or_eq_true, Bool.and_eq_false_iff, Bool.or_eq_false_iff, Int.not_lt, Int.not_le, Decidable.not_not] at hc5
      refine X.skip ?_
      refine X.seq ?_
      refine X.seq ?_
      refine X.region ?_
      refine Ex.pur (P_move rfl) rfl ?_
      refine Ex.pur (P_move rfl) rfl ?_
      refine Ex.call rfl rfl rfl (C_tactuskit_SameInts (ofD (mnsD m (mdRun l)) k) (ruleD m (mdRun l)) (by rw [hod]; omega)) rfl ?_
      refine Ex.nil ?_
      refine X.cond rfl (fun hc6 => ?_) (fun hc6 => ?_)
      · try simp only [decide_eq_true_eq, decide_eq_false_iff_not, Bool.not_eq_true', Bool.not_eq_false', Bool.and_eq_true, Bool.or_eq_true, Bool.and_eq_false_iff, Bool.or_eq_false_iff, Int.not_lt, Int.not_le, Decidable.not_not] at hc6
        have hfd := fnd_yes ((hn1 k hc4).1 hc6)
        refine X.region ?_
        refine Ex.pur (P_move rfl) rfl ?_
        refine Ex.pur (P_add rfl rfl (IntWalk.i64_in _ (by omega))) rfl ?_
        refine Ex.pur (P_assign rfl) rfl ?_
        refine Ex.nil ?_
        refine X.region ?_
        refine Ex.pur (P_move rfl) rfl ?_
        refine Ex.pur (P_assign rfl) rfl ?_
        refine Ex.nil ?_
        refine X.region ?_
        refine Ex.pur (P_move rfl) rfl ?_
        refine Ex.pur (P_add rfl rfl (IntWalk.i64_in _ (by omega))) rfl ?_
        refine Ex.pur (P_assign rfl) rfl ?_
        refine Ex.nil ?_
        refine ⟨k + 1, Imp.of (by (repeat' (first | exact True.intro | (refine And.intro ⟨_, rfl, ?_⟩ ?_; (first | exact LeV.refl _ | exact LeV.any _ | exact LeB.refl _ | (refine LeV.eq ?_; simp; done) | (refine LeV.eq ?_; congr 1; omega) | (refine LeV.eq ?_; dsimp only; congr 1; omega) | (refine LeV.eq (congrArg (AV.int _) ?_); omega) | exact LeV.nils _ | exact LeB.row (by assumption) | (refine LeB.eq ?_; congr 1; omega) | (refine LeB.eq ?_; congr 1; simp only [cond_true, cond_false]; omega)))))) (by (repeat' (first | exact True.intro | (refine And.intro ⟨_, rfl, ?_⟩ ?_; (first | exact LeV.refl _ | exact LeV.any _ | exact LeB.refl _ | (refine LeV.eq ?_; simp; done) | (refine LeV.eq ?_; congr 1; omega) | (refine LeV.eq ?_; dsimp only; congr 1; omega) | (refine LeV.eq (congrArg (AV.int _) ?_); omega) | exact LeV.nils _ | exact LeB.row (by assumption) | (refine LeB.eq ?_; congr 1; omega) | (refine LeB.eq ?_; congr 1; simp only [cond_true, cond_false]; omega)))))), ?_, ?_⟩
        · first | trivial | omega | (refine ⟨?_, ?_⟩ <;> omega)
        · omega
      · try simp only [decide_eq_true_eq, decide_eq_false_iff_not, Bool.not_eq_true', Bool.not_eq_false', Bool.and_eq_true, Bool.or_eq_true, Bool.and_eq_false_iff, Bool.or_eq_false_iff, Int.not_lt, Int.not_le, Decidable.not_not] at hc6
        have hfd := fnd_no (fun e => hc6 ((hn1 k hc4).2 e))
        refine X.skip ?_
        refine X.region ?_
        refine Ex.pur (P_move rfl) rfl ?_
        refine Ex.pur (P_assign rfl) rfl ?_
        refine Ex.nil ?_
        refine X.region ?_
        refine Ex.pur (P_move rfl) rfl ?_
        refine Ex.pur (P_add rfl rfl (IntWalk.i64_in _ (by omega))) rfl ?_
        refine Ex.pur (P_assign rfl) rfl ?_
        refine Ex.nil ?_
        refine ⟨k + 1, Imp.of (by (repeat' (first | exact True.intro | (refine And.intro ⟨_, rfl, ?_⟩ ?_; (first | exact LeV.refl _ | exact LeV.any _ | exact LeB.refl _ | (refine LeV.eq ?_; simp; done) | (refine LeV.eq ?_; congr 1; omega) | (refine LeV.eq ?_; dsimp only; congr 1; omega) | (refine LeV.eq (congrArg (AV.int _) ?_); omega) | exact LeV.nils _ | exact LeB.row (by assumption) | (refine LeB.eq ?_; congr 1; omega) | (refine LeB.eq ?_; congr 1; simp only [cond_true, cond_false]; omega)))))) (by (repeat' (first | exact True.intro | (refine And.intro ⟨_, rfl, ?_⟩ ?_; (first | exact LeV.refl _ | exact LeV.any _ | exact LeB.refl _ | (refine LeV.eq ?_; simp; done) | (refine LeV.eq ?_; congr 1; omega) | (refine LeV.eq ?_; dsimp only; congr 1; omega) | (refine LeV.eq (congrArg (AV.int _) ?_); omega) | exact LeV.nils _ | exact LeB.row (by assumption) | (refine LeB.eq ?_; congr 1; omega) | (refine LeB.eq ?_; congr 1; simp only [cond_true, cond_false]; omega)))))), ?_, ?_⟩
        · first | trivial | omega | (refine ⟨?_, ?_⟩ <;> omega)
        · omega
    · have hless : Fn Try.prog 60 [intsA (befN (mnsD m (mdRun l)) k), intsA (ofD (mnsD m (mdRun l)) (k : Int))] (.bool true) := by
        obtain ⟨j, rfl⟩ : ∃ j, k = j + 1 := ⟨k - 1, by omega⟩
        have h := C_tactuslaw09_less (ofD (mnsD m (mdRun l)) (j : Int)) (ofD (mnsD m (mdRun l)) ((j : Int) + 1)) (by rw [hod]; omega)
        rw [num_up hck hg hc2 (by omega), decide_eq_true (by rw [hod, hod])] at h
        exact h
      have hg2 : ((!decide ((0 : Int) = 0)) == false) = true := rfl
      have hg6 : ((!decide ((0 : Int) = 0) || !decide ((0 : Int) = 0)) == false) = true := rfl
      have hg9 : (decide ((0 : Int) < (k : Int)) == true) = true := by simp; omega
      refine X.region ?_
      refine Ex.pur (P_move rfl) rfl ?_
      refine Ex.pur (P_neq rfl rfl) rfl ?_
      refine Ex.pur (P_move rfl) rfl ?_
      (refine Ex.gT rfl rfl ?_ (Pur.stepA (P_move rfl)) rfl rfl ?_; iterate 1 (· first | exact hg2 | assumption | rfl | (simp_all; done) | omega))
      (refine Ex.gT rfl rfl ?_ (Pur.stepA (P_neq rfl rfl)) rfl rfl ?_; iterate 1 (· first | exact hg2 | assumption | rfl | (simp_all; done) | omega))
      first
        | refine Ex.pur (P_and rfl rfl) rfl ?_
        | refine Ex.pur (P_or rfl rfl) rfl ?_
        | (refine Ex.pur (P_pick_true rfl ?_ rfl) rfl ?_; iterate 1 (· first | assumption | rfl | omega | (simp; done) | (simp; omega) | (simp_all; done)))
        | (refine Ex.pur (P_pick_false rfl ?_ rfl) rfl ?_; iterate 1 (· first | assumption | rfl | omega | (simp; done) | (simp; omega) | (simp_all; done)))
      refine Ex.pur (P_move rfl) rfl ?_
      (refine Ex.gT rfl rfl ?_ (Pur.stepA (P_move rfl)) rfl rfl ?_; iterate 1 (· first | exact hg6 | assumption | rfl | (simp_all; done) | omega))
      (refine Ex.gT rfl rfl ?_ (Pur.stepA (P_gtr rfl rfl)) rfl rfl ?_; iterate 1 (· first | exact hg6 | assumption | rfl | (simp_all; done) | omega))
      (refine Ex.gT rfl rfl ?_ (Pur.stepA (P_move rfl)) rfl rfl ?_; iterate 1 (· first | exact hg6 | assumption | rfl | (simp_all; done) | omega))
      (refine Ex.gT rfl rfl ?_ (Pur.stepA (P_move rfl)) rfl rfl ?_; iterate 1 (· first | exact hg9 | assumption | rfl | (simp_all; done) | omega))
      (refine Ex.gT rfl rfl ?_ (Pur.stepA (P_move rfl)) rfl rfl ?_; iterate 1 (· first | exact hg9 | assumption | rfl | (simp_all; done) | omega))
      (refine Ex.gT rfl rfl ?_ (A_call rfl rfl rfl (LeL.refl _) hless) rfl rfl ?_; iterate 1 (· first | exact hg9 | assumption | rfl | (simp_all; done) | omega))
      (refine Ex.gT rfl rfl ?_ (Pur.stepA (P_not rfl)) rfl rfl ?_; iterate 1 (· first | exact hg9 | assumption | rfl | (simp_all; done) | omega))
      first
        | (refine Ex.gT rfl rfl ?_ (Pur.stepA (P_and rfl rfl)) rfl rfl ?_; iterate 1 (· first | exact hg6 | assumption | rfl | (simp_all; done) | omega))
        | (refine Ex.gT rfl rfl ?_ (Pur.stepA (P_or rfl rfl)) rfl rfl ?_; iterate 1 (· first | exact hg6 | assumption | rfl | (simp_all; done) | omega))
        | (refine Ex.gT rfl rfl ?_ (Pur.stepA (P_pick_true rfl ?_ rfl)) rfl rfl ?_; iterate 2 (· first | exact hg6 | assumption | rfl | (simp_all; done) | omega))
        | (refine Ex.gT rfl rfl ?_ (Pur.stepA (P_pick_false rfl ?_ rfl)) rfl rfl ?_; iterate 2 (· first | exact hg6 | assumption | rfl | (simp_all; done) | omega))
      first
        | refine Ex.pur (P_and rfl rfl) rfl ?_
        | refine Ex.pur (P_or rfl rfl) rfl ?_
        | (refine Ex.pur (P_pick_true rfl ?_ rfl) rfl ?_; iterate 1 (· first | assumption | rfl | omega | (simp; done) | (simp; omega) | (simp_all; done)))
        | (refine Ex.pur (P_pick_false rfl ?_ rfl) rfl ?_; iterate 1 (· first | assumption | rfl | omega | (simp; done) | (simp; omega) | (simp_all; done)))
      refine Ex.nil ?_
      refine X.cond rfl (fun hc7 => ?_) (fun hc7 => ?_)
      · try simp only [decide_eq_true_eq, decide_eq_false_iff_not, Bool.not_eq_true', Bool.not_eq_false', Bool.and_eq_true, Bool.or_eq_true, Bool.and_eq_false_iff, Bool.or_eq_false_iff, Int.not_lt, Int.not_le, Decidable.not_not] at hc7
        (first | (simp at hc7; done) | omega)
      try simp only [decide_eq_true_eq, decide_eq_false_iff_not, Bool.not_eq_true', Bool.not_eq_false', Bool.and_eq_true, Bool.or_eq_true, Bool.and_eq_false_iff, Bool.or_eq_false_iff, Int.not_lt, Int.not_le, Decidable.not_not] at hc7
      refine X.skip ?_
      refine X.seq ?_
      refine X.seq ?_
      refine X.region ?_
      refine Ex.pur (P_move rfl) rfl ?_
      refine Ex.pur (P_move rfl) rfl ?_
      refine Ex.call rfl rfl rfl (C_tactuskit_SameInts (ofD (mnsD m (mdRun l)) k) (ruleD m (mdRun l)) (by rw [hod]; omega)) rfl ?_
      refine Ex.nil ?_
      refine X.cond rfl (fun hc8 => ?_) (fun hc8 => ?_)
      · try simp only [decide_eq_true_eq, decide_eq_false_iff_not, Bool.not_eq_true', Bool.not_eq_false', Bool.and_eq_true, Bool.or_eq_true, Bool.and_eq_false_iff, Bool.or_eq_false_iff, Int.not_lt, Int.not_le, Decidable.not_not] at hc8
        have hfd := fnd_yes ((hn1 k hc4).1 hc8)
        refine X.region ?_
        refine Ex.pur (P_move rfl) rfl ?_
        refine Ex.pur (P_add rfl rfl (IntWalk.i64_in _ (by omega))) rfl ?_
        refine Ex.pur (P_assign rfl) rfl ?_
        refine Ex.nil ?_
        refine X.region ?_
        refine Ex.pur (P_move rfl) rfl ?_
        refine Ex.pur (P_assign rfl) rfl ?_
        refine Ex.nil ?_
        refine X.region ?_
        refine Ex.pur (P_move rfl) rfl ?_
        refine Ex.pur (P_add rfl rfl (IntWalk.i64_in _ (by omega))) rfl ?_
        refine Ex.pur (P_assign rfl) rfl ?_
        refine Ex.nil ?_
        refine ⟨k + 1, Imp.of (by (repeat' (first | exact True.intro | (refine And.intro ⟨_, rfl, ?_⟩ ?_; (first | exact LeV.refl _ | exact LeV.any _ | exact LeB.refl _ | (refine LeV.eq ?_; simp; done) | (refine LeV.eq ?_; congr 1; omega) | (refine LeV.eq ?_; dsimp only; congr 1; omega) | (refine LeV.eq (congrArg (AV.int _) ?_); omega) | exact LeV.nils _ | exact LeB.row (by assumption) | (refine LeB.eq ?_; congr 1; omega) | (refine LeB.eq ?_; congr 1; simp only [cond_true, cond_false]; omega)))))) (by (repeat' (first | exact True.intro | (refine And.intro ⟨_, rfl, ?_⟩ ?_; (first | exact LeV.refl _ | exact LeV.any _ | exact LeB.refl _ | (refine LeV.eq ?_; simp; done) | (refine LeV.eq ?_; congr 1; omega) | (refine LeV.eq ?_; dsimp only; congr 1; omega) | (refine LeV.eq (congrArg (AV.int _) ?_); omega) | exact LeV.nils _ | exact LeB.row (by assumption) | (refine LeB.eq ?_; congr 1; omega) | (refine LeB.eq ?_; congr 1; simp only [cond_true, cond_false]; omega)))))), ?_, ?_⟩
        · first | trivial | omega | (refine ⟨?_, ?_⟩ <;> omega)
        · omega
      · try simp only [decide_eq_true_eq, decide_eq_false_iff_not, Bool.not_eq_true', Bool.not_eq_false', Bool.and_eq_true, Bool.or_eq_true, Bool.and_eq_false_iff, Bool.or_eq_false_iff, Int.not_lt, Int.not_le, Decidable.not_not] at hc8
        have hfd := fnd_no (fun e => hc8 ((hn1 k hc4).2 e))
        refine X.skip ?_
        refine X.region ?_
        refine Ex.pur (P_move rfl) rfl ?_
        refine Ex.pur (P_assign rfl) rfl ?_
        refine Ex.nil ?_
        refine X.region ?_
        refine Ex.pur (P_move rfl) rfl ?_
        refine Ex.pur (P_add rfl rfl (IntWalk.i64_in _ (by omega))) rfl ?_
        refine Ex.pur (P_assign rfl) rfl ?_
        refine Ex.nil ?_
        refine ⟨k + 1, Imp.of (by (repeat' (first | exact True.intro | (refine And.intro ⟨_, rfl, ?_⟩ ?_; (first | exact LeV.refl _ | exact LeV.any _ | exact LeB.refl _ | (refine LeV.eq ?_; simp; done) | (refine LeV.eq ?_; congr 1; omega) | (refine LeV.eq ?_; dsimp only; congr 1; omega) | (refine LeV.eq (congrArg (AV.int _) ?_); omega) | exact LeV.nils _ | exact LeB.row (by assumption) | (refine LeB.eq ?_; congr 1; omega) | (refine LeB.eq ?_; congr 1; simp only [cond_true, cond_false]; omega)))))) (by (repeat' (first | exact True.intro | (refine And.intro ⟨_, rfl, ?_⟩ ?_; (first | exact LeV.refl _ | exact LeV.any _ | exact LeB.refl _ | (refine LeV.eq ?_; simp; done) | (refine LeV.eq ?_; congr 1; omega) | (refine LeV.eq ?_; dsimp only; congr 1; omega) | (refine LeV.eq (congrArg (AV.int _) ?_); omega) | exact LeV.nils _ | exact LeB.row (by assumption) | (refine LeB.eq ?_; congr 1; omega) | (refine LeB.eq ?_; congr 1; simp only [cond_true, cond_false]; omega)))))), ?_, ?_⟩
        · first | trivial | omega | (refine ⟨?_, ?_⟩ <;> omega)
        · omega
  · try simp only [decide_eq_true_eq, decide_eq_false_iff_not, Bool.not_eq_true', Bool.not_eq_false', Bool.and_eq_true, Bool.or_eq_true, Bool.and_eq_false_iff, Bool.or_eq_false_iff, Int.not_lt, Int.not_le, Decidable.not_not] at hc4
    have hfin : fnd n0 k = 1 := by rw [fnd_eq, if_pos (by omega)]
    refine X.exit ?_
    refine X.seq ?_
    refine X.region ?_
    refine Ex.pur (P_move rfl) rfl ?_
    refine Ex.pur (P_move rfl) rfl ?_
    refine Ex.gstart (t := 105) true rfl ?_
    refine ExG.step rfl rfl rfl (fun hg => Pur.stepA (P_move rfl)) rfl ?_
    refine ExG.step rfl rfl rfl (fun hg => Pur.stepA (P_eql rfl rfl)) rfl ?_
    refine ExG.done ?_
    first
      | refine Ex.pur (P_and rfl rfl) rfl ?_
      | refine Ex.pur (P_or rfl rfl) rfl ?_
      | (refine Ex.pur (P_pick_true rfl ?_ rfl) rfl ?_; iterate 1 (· first | assumption | rfl | omega | (simp; done) | (simp; omega) | (simp_all; done)))
      | (refine Ex.pur (P_pick_false rfl ?_ rfl) rfl ?_; iterate 1 (· first | assumption | rfl | omega | (simp; done) | (simp; omega) | (simp_all; done)))
    refine Ex.pur (P_assign rfl) rfl ?_
    refine Ex.nil ?_
    refine X.ret ?_
    refine RetQ.ret (.one (.tmp rfl (LeV.eq ?_)))
    all_goals (first | rfl | simp [hfin])
end Go.Rse
