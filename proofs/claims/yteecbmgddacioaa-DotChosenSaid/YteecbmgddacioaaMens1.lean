/-
  Walks: mensurations.
-/
import Derived.Test.YteecbmgddacioaaMens0
namespace Go.Rse
open Go Go.Proofs
set_option linter.unusedVariables false
set_option linter.unusedSimpArgs false
attribute [local irreducible] Pur StepA StepM Ex X ExG Fn Imp LeV LeB
theorem C_mens_parts (m : Mn) : Fn Try.prog 158 [mnA m] (mnA m) := by
  refine Fn.intro (ts := [(0, mnA m)]) (rv := [.cell 2 149]) (n := 12) (by kernel_rfl) Try.func158 rfl Try.ntmps158 rfl rfl rfl (by simp) (fun g w d => ?_)
  refine X.seq ?_
  refine X.region ?_
  refine Ex.stepA (A_box_agg (k := 1) rfl rfl) rfl rfl ?_
  refine Ex.stepA (A_alloc (k := 2) zc149) rfl rfl ?_
  refine Ex.nil ?_
  refine X.seq ?_
  refine X.region ?_
  first
    | refine Ex.pur (P_fieldAddr_ptr rfl fo23_0) rfl ?_
    | refine Ex.pur (P_fieldAddr_ept rfl fo23_0) rfl ?_
  first
    | refine Ex.pur (P_load_box rfl rfl rfl ty3) rfl ?_
    | refine Ex.pur (P_load_ept rfl rfl rfl ty3) rfl ?_
    | refine Ex.pur (P_load_row rfl rfl (by assumption) rfl rfl ty3) rfl ?_
  first
    | refine Ex.pur (P_fieldAddr_ptr rfl fo23_1) rfl ?_
    | refine Ex.pur (P_fieldAddr_ept rfl fo23_1) rfl ?_
  first
    | refine Ex.pur (P_load_box rfl rfl rfl ty3) rfl ?_
    | refine Ex.pur (P_load_ept rfl rfl rfl ty3) rfl ?_
    | refine Ex.pur (P_load_row rfl rfl (by assumption) rfl rfl ty3) rfl ?_
  first
    | refine Ex.pur (P_fieldAddr_ptr rfl fo23_2) rfl ?_
    | refine Ex.pur (P_fieldAddr_ept rfl fo23_2) rfl ?_
  first
    | refine Ex.pur (P_load_box rfl rfl rfl ty3) rfl ?_
    | refine Ex.pur (P_load_ept rfl rfl rfl ty3) rfl ?_
    | refine Ex.pur (P_load_row rfl rfl (by assumption) rfl rfl ty3) rfl ?_
  first
    | refine Ex.pur (P_fieldAddr_ptr rfl fo23_3) rfl ?_
    | refine Ex.pur (P_fieldAddr_ept rfl fo23_3) rfl ?_
  first
    | refine Ex.pur (P_load_box rfl rfl rfl ty3) rfl ?_
    | refine Ex.pur (P_load_ept rfl rfl rfl ty3) rfl ?_
    | refine Ex.pur (P_load_row rfl rfl (by assumption) rfl rfl ty3) rfl ?_
  refine Ex.pur (P_buildArr ar149 ty3 zc149 rfl rfl rfl) rfl ?_
  refine Ex.stepM (M_store_agg rfl rfl rfl rfl ty149 rfl (leB rfl)) ?_
  refine Ex.nil ?_
  refine X.ret ?_
  refine RetQ.ret (.one (.cellA rfl rfl rfl rfl ty149 (LeV.eq ?_)))
  all_goals (rfl)
theorem C_mens_of (m : Mn) (v : Int) (h1 : 1 ≤ v) (h8 : v ≤ 8) : Fn Try.prog 154 [mnA m, iv v] (iv (m.p v)) := by
  refine Fn.intro (ts := [(0, mnA m), (1, iv v)]) (rv := [.tmp 4]) (n := 12) (by kernel_rfl) Try.func154 rfl Try.ntmps154 rfl rfl rfl (by simp) (fun g w d => ?_)
  refine X.seq ?_
  refine X.region ?_
  refine Ex.stepA (A_box_agg (k := 2) rfl rfl) rfl rfl ?_
  refine Ex.pur (P_assign rfl) rfl ?_
  refine Ex.nil ?_
  refine X.seq ?_
  refine X.seq ?_
  refine X.region ?_
  refine Ex.pur (P_move rfl) rfl ?_
  refine Ex.pur (P_gtr rfl rfl) rfl ?_
  refine Ex.nil ?_
  refine X.cond rfl (fun hc1 => ?_) (fun hc1 => ?_)
  · try simp only [decide_eq_true_eq, decide_eq_false_iff_not, Bool.not_eq_true', Bool.not_eq_false', Bool.and_eq_true, Bool.or_eq_true, Bool.and_eq_false_iff, Bool.or_eq_false_iff, Int.not_lt, Int.not_le, Decidable.not_not] at hc1
    refine X.seq ?_
    refine X.region ?_
    refine Ex.pur (P_assign rfl) rfl ?_
    refine Ex.nil ?_
    refine X.ret ?_
    refine RetQ.ret (.one (.tmp rfl (LeV.eq ?_)))
    all_goals (first | rfl | (congr 1; unfold Mn.p; rw [if_neg (by omega), if_neg (by omega), if_neg (by omega), if_neg (by omega)]))
  try simp only [decide_eq_true_eq, decide_eq_false_iff_not, Bool.not_eq_true', Bool.not_eq_false', Bool.and_eq_true, Bool.or_eq_true, Bool.and_eq_false_iff, Bool.or_eq_false_iff, Int.not_lt, Int.not_le, Decidable.not_not] at hc1
  have hp := mnE_get m v h1 hc1
  refine X.skip ?_
  refine X.seq ?_
  refine X.region ?_
  first
    | refine Ex.pur (P_load_box_all rfl rfl rfl rfl ty23) rfl ?_
    | refine Ex.pur (P_load_ept_all rfl rfl rfl ty23) rfl ?_
    | refine Ex.pur (P_load_ept_part rfl rfl rfl rfl ty23) rfl ?_
    | refine Ex.pur (P_load_box_part rfl rfl rfl rfl ty23) rfl ?_
  refine Ex.call rfl rfl rfl (C_mens_parts m) rfl ?_
  refine Ex.pur (P_move rfl) rfl ?_
  refine Ex.pur (P_sub rfl rfl (IntWalk.i64_in _ (by omega))) rfl ?_
  refine Ex.pur (P_index ar149 ty3 rfl rfl (by omega) (by omega) hp) rfl ?_
  refine Ex.pur (P_assign rfl) rfl ?_
  refine Ex.nil ?_
  refine X.ret ?_
  refine RetQ.ret (.one (.tmp rfl (LeV.eq ?_)))
  all_goals (first | rfl | (congr 1; unfold Mn.p; rw [if_neg (by omega), if_neg (by omega), if_neg (by omega), if_neg (by omega)]))
theorem C_mens_Check (m : Mn) : Fn Try.prog 122 [mnA m] (iv (ckM m)) := by
  refine Fn.intro (ts := [(0, mnA m)]) (rv := [.tmp 2]) (n := 17) (by kernel_rfl) Try.func122 rfl Try.ntmps122 rfl rfl rfl (by simp) (fun g w d => ?_)
  refine X.seq ?_
  refine X.region ?_
  refine Ex.stepA (A_box_agg (k := 1) rfl rfl) rfl rfl ?_
  refine Ex.pur (P_assign rfl) rfl ?_
  refine Ex.nil ?_
  refine X.seq ?_
  refine X.seq ?_
  refine X.region ?_
  first
    | refine Ex.pur (P_load_box_all rfl rfl rfl rfl ty23) rfl ?_
    | refine Ex.pur (P_load_ept_all rfl rfl rfl ty23) rfl ?_
    | refine Ex.pur (P_load_ept_part rfl rfl rfl rfl ty23) rfl ?_
    | refine Ex.pur (P_load_box_part rfl rfl rfl rfl ty23) rfl ?_
  refine Ex.call rfl rfl rfl (C_mens_parts m) rfl ?_
  refine Ex.pur (P_move rfl) rfl ?_
  refine Ex.nil ?_
  refine X.block ?_
  refine X.loop (ι := Nat) (fun (k : Nat) => ⟨[(6, mnA m), (7, iv k)], []⟩) (fun (k : Nat) => k ≤ 4 ∧ ∀ v : Int, 1 ≤ v → v ≤ k → two3 (m.p v)) (fun (k : Nat) => 4 - k) 0 ?_ ?_ (fun k hk => ?_)
  · exact Imp.of (by (repeat' (first | exact True.intro | (refine And.intro ⟨_, rfl, ?_⟩ ?_; (first | exact LeV.refl _ | exact LeV.any _ | exact LeB.refl _ | (refine LeV.eq ?_; simp; done) | (refine LeV.eq ?_; congr 1; omega) | exact LeV.nils _))))) (by (repeat' (first | exact True.intro | (refine And.intro ⟨_, rfl, ?_⟩ ?_; (first | exact LeV.refl _ | exact LeV.any _ | exact LeB.refl _ | (refine LeV.eq ?_; simp; done) | (refine LeV.eq ?_; congr 1; omega) | exact LeV.nils _)))))
  · exact ⟨by omega, fun v h1 h2 => by omega⟩
  obtain ⟨hk1, hk2⟩ := hk
  refine X.seq ?_
  refine X.region ?_
  refine Ex.pur (P_lss rfl rfl) rfl ?_
  refine Ex.nil ?_
  refine X.seq ?_
  refine X.cond rfl (fun hc1 => ?_) (fun hc1 => ?_)
  · try simp only [decide_eq_true_eq, decide_eq_false_iff_not, Bool.not_eq_true', Bool.not_eq_false', Bool.and_eq_true, Bool.or_eq_true, Bool.and_eq_false_iff, Bool.or_eq_false_iff, Int.not_lt, Int.not_le, Decidable.not_not] at hc1
    have hp := mnE_get m ((k : Int) + 1) (by omega) (by omega)
    rw [show ((k : Int) + 1 - 1) = (k : Int) by omega] at hp
    refine X.skip ?_
    refine X.seq ?_
    refine X.block ?_
    refine X.seq ?_
    refine X.region ?_
    refine Ex.pur (P_index ar149 ty3 rfl rfl (by omega) (by omega) hp) rfl ?_
    refine Ex.pur (P_assign rfl) rfl ?_
    refine Ex.nil ?_
    refine X.seq ?_
    refine X.region ?_
    refine Ex.pur (P_move rfl) rfl ?_
    refine Ex.pur (P_neq rfl rfl) rfl ?_
    refine Ex.pur (P_move rfl) rfl ?_
    refine Ex.gstart (t := 12) true rfl ?_
    refine ExG.step rfl rfl rfl (fun hg => (P_move rfl).stepA) rfl ?_
    refine ExG.step rfl rfl rfl (fun hg => (P_neq rfl rfl).stepA) rfl ?_
    refine ExG.done ?_
    first
      | refine Ex.pur (P_and rfl rfl) rfl ?_
      | refine Ex.pur (P_or rfl rfl) rfl ?_
      | (refine Ex.pur (P_pick_true rfl ?_ rfl) rfl ?_; iterate 1 (· first | assumption | rfl | (simp_all; done) | omega))
      | (refine Ex.pur (P_pick_false rfl ?_ rfl) rfl ?_; iterate 1 (· first | assumption | rfl | (simp_all; done) | omega))
    refine Ex.nil ?_
    refine X.cond rfl (fun hc2 => ?_) (fun hc2 => ?_)
    · try simp only [decide_eq_true_eq, decide_eq_false_iff_not, Bool.not_eq_true', Bool.not_eq_false', Bool.and_eq_true, Bool.or_eq_true, Bool.and_eq_false_iff, Bool.or_eq_false_iff, Int.not_lt, Int.not_le, Decidable.not_not] at hc2
      refine X.seq ?_
      refine X.region ?_
      refine Ex.pur (P_assign rfl) rfl ?_
      refine Ex.nil ?_
      refine X.ret ?_
      refine RetQ.ret (.one (.tmp rfl (LeV.eq ?_)))
      all_goals (congr 1; unfold ckM; rw [if_neg (fun h => by have := (m.ok_iff.1 h) (k + 1) (by omega) (by omega); unfold two3 at this; omega)])
    try simp only [decide_eq_true_eq, decide_eq_false_iff_not, Bool.not_eq_true', Bool.not_eq_false', Bool.and_eq_true, Bool.or_eq_true, Bool.and_eq_false_iff, Bool.or_eq_false_iff, Int.not_lt, Int.not_le, Decidable.not_not] at hc2
    have hp2 : two3 (m.p ((k : Int) + 1)) := by unfold two3; omega
    refine X.skip ?_
    refine X.region ?_
    refine Ex.pur (P_add rfl rfl (IntWalk.i64_in _ (by omega))) rfl ?_
    refine Ex.pur (P_move rfl) rfl ?_
    refine Ex.nil ?_
    refine ⟨k + 1, Imp.of (by (repeat' (first | exact True.intro | (refine And.intro ⟨_, rfl, ?_⟩ ?_; (first | exact LeV.refl _ | exact LeV.any _ | exact LeB.refl _ | (refine LeV.eq ?_; simp; done) | (refine LeV.eq ?_; congr 1; omega) | exact LeV.nils _))))) (by (repeat' (first | exact True.intro | (refine And.intro ⟨_, rfl, ?_⟩ ?_; (first | exact LeV.refl _ | exact LeV.any _ | exact LeB.refl _ | (refine LeV.eq ?_; simp; done) | (refine LeV.eq ?_; congr 1; omega) | exact LeV.nils _))))), ?_, ?_⟩
    · exact ⟨by omega, fun v h1 h2 => by
    by_cases e : v = k + 1
    · rw [e]; exact hp2
    · exact hk2 v h1 (by omega)⟩
    · omega
  · try simp only [decide_eq_true_eq, decide_eq_false_iff_not, Bool.not_eq_true', Bool.not_eq_false', Bool.and_eq_true, Bool.or_eq_true, Bool.and_eq_false_iff, Bool.or_eq_false_iff, Int.not_lt, Int.not_le, Decidable.not_not] at hc1
    refine X.exit ?_
    refine X.seq ?_
    refine X.region ?_
    refine Ex.pur (P_assign rfl) rfl ?_
    refine Ex.nil ?_
    refine X.ret ?_
    refine RetQ.ret (.one (.tmp rfl (LeV.eq ?_)))
    all_goals (congr 1; unfold ckM; rw [if_pos (m.ok_iff.2 fun v h1 h2 => hk2 v h1 (by omega))])
theorem C_mens_checked (m : Mn) (v : Int) : Fn Try.prog 111 [mnA m, iv v] (iv (ckMV m v)) := by
  refine Fn.intro (ts := [(0, mnA m), (1, iv v)]) (rv := [.tmp 4]) (n := 19) (by kernel_rfl) Try.func111 rfl Try.ntmps111 rfl rfl rfl (by simp) (fun g w d => ?_)
  refine X.seq ?_
  refine X.region ?_
  refine Ex.stepA (A_box_agg (k := 2) rfl rfl) rfl rfl ?_
  refine Ex.pur (P_assign rfl) rfl ?_
  refine Ex.nil ?_
  refine X.seq ?_
  refine X.region ?_
  first
    | refine Ex.pur (P_load_box_all rfl rfl rfl rfl ty23) rfl ?_
    | refine Ex.pur (P_load_ept_all rfl rfl rfl ty23) rfl ?_
    | refine Ex.pur (P_load_ept_part rfl rfl rfl rfl ty23) rfl ?_
    | refine Ex.pur (P_load_box_part rfl rfl rfl rfl ty23) rfl ?_
  refine Ex.call rfl rfl rfl (C_mens_Check m) rfl ?_
  refine Ex.pur (P_assign rfl) rfl ?_
  refine Ex.nil ?_
  refine X.seq ?_
  refine X.seq ?_
  refine X.region ?_
  refine Ex.pur (P_move rfl) rfl ?_
  refine Ex.pur (P_eql rfl rfl) rfl ?_
  refine Ex.pur (P_move rfl) rfl ?_
  refine Ex.gcase (t := 10) true rfl (fun hg2 => ?_) (fun hg2 => ?_)
  · (refine Ex.gT rfl rfl ?_ ((P_move rfl).stepA) rfl rfl ?_; iterate 1 (· first | exact hg2 | assumption | rfl | (simp_all; done) | omega))
    (refine Ex.gT rfl rfl ?_ ((P_lss rfl rfl).stepA) rfl rfl ?_; iterate 1 (· first | exact hg2 | assumption | rfl | (simp_all; done) | omega))
    (refine Ex.gT rfl rfl ?_ ((P_move rfl).stepA) rfl rfl ?_; iterate 1 (· first | exact hg2 | assumption | rfl | (simp_all; done) | omega))
    refine Ex.gcase (t := 13) false rfl (fun hg5 => ?_) (fun hg5 => ?_)
    · (refine Ex.gT rfl rfl ?_ ((P_move rfl).stepA) rfl rfl ?_; iterate 1 (· first | exact hg5 | assumption | rfl | (simp_all; done) | omega))
      (refine Ex.gT rfl rfl ?_ ((P_gtr rfl rfl).stepA) rfl rfl ?_; iterate 1 (· first | exact hg5 | assumption | rfl | (simp_all; done) | omega))
      first
        | (refine Ex.gT rfl rfl ?_ ((P_and rfl rfl).stepA) rfl rfl ?_; iterate 1 (· first | exact hg2 | assumption | rfl | (simp_all; done) | omega))
        | (refine Ex.gT rfl rfl ?_ ((P_or rfl rfl).stepA) rfl rfl ?_; iterate 1 (· first | exact hg2 | assumption | rfl | (simp_all; done) | omega))
        | (refine Ex.gT rfl rfl ?_ ((P_pick_true rfl ?_ rfl).stepA) rfl rfl ?_; iterate 2 (· first | exact hg2 | assumption | rfl | (simp_all; done) | omega))
        | (refine Ex.gT rfl rfl ?_ ((P_pick_false rfl ?_ rfl).stepA) rfl rfl ?_; iterate 2 (· first | exact hg2 | assumption | rfl | (simp_all; done) | omega))
      first
        | refine Ex.pur (P_and rfl rfl) rfl ?_
        | refine Ex.pur (P_or rfl rfl) rfl ?_
        | (refine Ex.pur (P_pick_true rfl ?_ rfl) rfl ?_; iterate 1 (· first | assumption | rfl | (simp_all; done) | omega))
        | (refine Ex.pur (P_pick_false rfl ?_ rfl) rfl ?_; iterate 1 (· first | assumption | rfl | (simp_all; done) | omega))
      refine Ex.nil ?_
      refine X.cond rfl (fun hc1 => ?_) (fun hc1 => ?_)
      · try simp only [decide_eq_true_eq, decide_eq_false_iff_not, Bool.not_eq_true', Bool.not_eq_false', Bool.and_eq_true, Bool.or_eq_true, Bool.and_eq_false_iff, Bool.or_eq_false_iff, Int.not_lt, Int.not_le, Decidable.not_not] at hc1
        refine X.seq ?_
        refine X.region ?_
        refine Ex.pur (P_assign rfl) rfl ?_
        refine Ex.nil ?_
        refine X.ret ?_
        refine RetQ.ret (.one (.tmp rfl (LeV.eq ?_)))
        all_goals (by_cases hm : m.Ok <;> simp_all [ckM, ckMV] <;> omega)
      try simp only [decide_eq_true_eq, decide_eq_false_iff_not, Bool.not_eq_true', Bool.not_eq_false', Bool.and_eq_true, Bool.or_eq_true, Bool.and_eq_false_iff, Bool.or_eq_false_iff, Int.not_lt, Int.not_le, Decidable.not_not] at hc1
      refine X.skip ?_
      refine X.seq ?_
      refine X.region ?_
      refine Ex.pur (P_move rfl) rfl ?_
      refine Ex.pur (P_assign rfl) rfl ?_
      refine Ex.nil ?_
      refine X.ret ?_
      refine RetQ.ret (.one (.tmp rfl (LeV.eq ?_)))
      all_goals (by_cases hm : m.Ok <;> simp_all [ckM, ckMV] <;> omega)
    · (refine Ex.gF rfl rfl ?_ rfl ?_; · first | exact hg5 | (simp_all; done))
      (refine Ex.gF rfl rfl ?_ rfl ?_; · first | exact hg5 | (simp_all; done))
      first
        | (refine Ex.gT rfl rfl ?_ ((P_and rfl rfl).stepA) rfl rfl ?_; iterate 1 (· first | exact hg2 | assumption | rfl | (simp_all; done) | omega))
        | (refine Ex.gT rfl rfl ?_ ((P_or rfl rfl).stepA) rfl rfl ?_; iterate 1 (· first | exact hg2 | assumption | rfl | (simp_all; done) | omega))
        | (refine Ex.gT rfl rfl ?_ ((P_pick_true rfl ?_ rfl).stepA) rfl rfl ?_; iterate 2 (· first | exact hg2 | assumption | rfl | (simp_all; done) | omega))
        | (refine Ex.gT rfl rfl ?_ ((P_pick_false rfl ?_ rfl).stepA) rfl rfl ?_; iterate 2 (· first | exact hg2 | assumption | rfl | (simp_all; done) | omega))
      first
        | refine Ex.pur (P_and rfl rfl) rfl ?_
        | refine Ex.pur (P_or rfl rfl) rfl ?_
        | (refine Ex.pur (P_pick_true rfl ?_ rfl) rfl ?_; iterate 1 (· first | assumption | rfl | (simp_all; done) | omega))
        | (refine Ex.pur (P_pick_false rfl ?_ rfl) rfl ?_; iterate 1 (· first | assumption | rfl | (simp_all; done) | omega))
      refine Ex.nil ?_
      refine X.cond rfl (fun hc2 => ?_) (fun hc2 => ?_)
      · try simp only [decide_eq_true_eq, decide_eq_false_iff_not, Bool.not_eq_true', Bool.not_eq_false', Bool.and_eq_true, Bool.or_eq_true, Bool.and_eq_false_iff, Bool.or_eq_false_iff, Int.not_lt, Int.not_le, Decidable.not_not] at hc2
        refine X.seq ?_
        refine X.region ?_
        refine Ex.pur (P_assign rfl) rfl ?_
        refine Ex.nil ?_
        refine X.ret ?_
        refine RetQ.ret (.one (.tmp rfl (LeV.eq ?_)))
        all_goals (by_cases hm : m.Ok <;> simp_all [ckM, ckMV] <;> omega)
      try simp only [decide_eq_true_eq, decide_eq_false_iff_not, Bool.not_eq_true', Bool.not_eq_false', Bool.and_eq_true, Bool.or_eq_true, Bool.and_eq_false_iff, Bool.or_eq_false_iff, Int.not_lt, Int.not_le, Decidable.not_not] at hc2
      refine X.skip ?_
      refine X.seq ?_
      refine X.region ?_
      refine Ex.pur (P_move rfl) rfl ?_
      refine Ex.pur (P_assign rfl) rfl ?_
      refine Ex.nil ?_
      refine X.ret ?_
      refine RetQ.ret (.one (.tmp rfl (LeV.eq ?_)))
      all_goals (by_cases hm : m.Ok <;> simp_all [ckM, ckMV] <;> omega)
  · (refine Ex.gF rfl rfl ?_ rfl ?_; · first | exact hg2 | (simp_all; done))
    (refine Ex.gF rfl rfl ?_ rfl ?_; · first | exact hg2 | (simp_all; done))
    (refine Ex.gF rfl rfl ?_ rfl ?_; · first | exact hg2 | (simp_all; done))
    refine Ex.gN rfl rfl rfl ?_
    refine Ex.gN rfl rfl rfl ?_
    (refine Ex.gF rfl rfl ?_ rfl ?_; · first | exact hg2 | (simp_all; done))
    first
      | refine Ex.pur (P_and rfl rfl) rfl ?_
      | refine Ex.pur (P_or rfl rfl) rfl ?_
      | (refine Ex.pur (P_pick_true rfl ?_ rfl) rfl ?_; iterate 1 (· first | assumption | rfl | (simp_all; done) | omega))
      | (refine Ex.pur (P_pick_false rfl ?_ rfl) rfl ?_; iterate 1 (· first | assumption | rfl | (simp_all; done) | omega))
    refine Ex.nil ?_
    refine X.cond rfl (fun hc3 => ?_) (fun hc3 => ?_)
    · try simp only [decide_eq_true_eq, decide_eq_false_iff_not, Bool.not_eq_true', Bool.not_eq_false', Bool.and_eq_true, Bool.or_eq_true, Bool.and_eq_false_iff, Bool.or_eq_false_iff, Int.not_lt, Int.not_le, Decidable.not_not] at hc3
      refine X.seq ?_
      refine X.region ?_
      refine Ex.pur (P_assign rfl) rfl ?_
      refine Ex.nil ?_
      refine X.ret ?_
      refine RetQ.ret (.one (.tmp rfl (LeV.eq ?_)))
      all_goals (by_cases hm : m.Ok <;> simp_all [ckM, ckMV] <;> omega)
    try simp only [decide_eq_true_eq, decide_eq_false_iff_not, Bool.not_eq_true', Bool.not_eq_false', Bool.and_eq_true, Bool.or_eq_true, Bool.and_eq_false_iff, Bool.or_eq_false_iff, Int.not_lt, Int.not_le, Decidable.not_not] at hc3
    refine X.skip ?_
    refine X.seq ?_
    refine X.region ?_
    refine Ex.pur (P_move rfl) rfl ?_
    refine Ex.pur (P_assign rfl) rfl ?_
    refine Ex.nil ?_
    refine X.ret ?_
    refine RetQ.ret (.one (.tmp rfl (LeV.eq ?_)))
    all_goals (by_cases hm : m.Ok <;> simp_all [ckM, ckMV] <;> omega)
theorem C_mens_Parts (m : Mn) (v : Int) : Fn Try.prog 119 [mnA m, iv v] (.tup [iv (if ckMV m v = 0 then m.p v else 0), iv (ckMV m v)]) := by
  refine Fn.intro (ts := [(0, mnA m), (1, iv v)]) (rv := [.tmp 4, .tmp 5]) (n := 16) (by kernel_rfl) Try.func119 rfl Try.ntmps119 rfl rfl rfl (by simp) (fun g w d => ?_)
  refine X.seq ?_
  refine X.region ?_
  refine Ex.stepA (A_box_agg (k := 2) rfl rfl) rfl rfl ?_
  refine Ex.pur (P_assign rfl) rfl ?_
  refine Ex.pur (P_assign rfl) rfl ?_
  refine Ex.nil ?_
  refine X.seq ?_
  refine X.seq ?_
  refine X.region ?_
  first
    | refine Ex.pur (P_load_box_all rfl rfl rfl rfl ty23) rfl ?_
    | refine Ex.pur (P_load_ept_all rfl rfl rfl ty23) rfl ?_
    | refine Ex.pur (P_load_ept_part rfl rfl rfl rfl ty23) rfl ?_
    | refine Ex.pur (P_load_box_part rfl rfl rfl rfl ty23) rfl ?_
  refine Ex.pur (P_move rfl) rfl ?_
  refine Ex.call rfl rfl rfl (C_mens_checked m v) rfl ?_
  refine Ex.pur (P_assign rfl) rfl ?_
  refine Ex.nil ?_
  refine X.seq ?_
  refine X.region ?_
  refine Ex.pur (P_move rfl) rfl ?_
  refine Ex.pur (P_neq rfl rfl) rfl ?_
  refine Ex.nil ?_
  refine X.cond rfl (fun hc1 => ?_) (fun hc1 => ?_)
  · try simp only [decide_eq_true_eq, decide_eq_false_iff_not, Bool.not_eq_true', Bool.not_eq_false', Bool.and_eq_true, Bool.or_eq_true, Bool.and_eq_false_iff, Bool.or_eq_false_iff, Int.not_lt, Int.not_le, Decidable.not_not] at hc1
    refine X.seq ?_
    refine X.region ?_
    refine Ex.pur (P_move rfl) rfl ?_
    refine Ex.pur (P_assign rfl) rfl ?_
    refine Ex.pur (P_assign rfl) rfl ?_
    refine Ex.nil ?_
    refine X.ret ?_
    refine RetQ.ret (.many (by decide) (.cons (.tmp rfl (LeV.eq ?_)) (.cons (.tmp rfl (LeV.eq ?_)) .nil)))
    all_goals (first | rfl | (simp_all; done))
  try simp only [decide_eq_true_eq, decide_eq_false_iff_not, Bool.not_eq_true', Bool.not_eq_false', Bool.and_eq_true, Bool.or_eq_true, Bool.and_eq_false_iff, Bool.or_eq_false_iff, Int.not_lt, Int.not_le, Decidable.not_not] at hc1
  refine X.skip ?_
  refine X.seq ?_
  refine X.region ?_
  first
    | refine Ex.pur (P_load_box_all rfl rfl rfl rfl ty23) rfl ?_
    | refine Ex.pur (P_load_ept_all rfl rfl rfl ty23) rfl ?_
    | refine Ex.pur (P_load_ept_part rfl rfl rfl rfl ty23) rfl ?_
    | refine Ex.pur (P_load_box_part rfl rfl rfl rfl ty23) rfl ?_
  refine Ex.pur (P_move rfl) rfl ?_
  refine Ex.call rfl rfl rfl (C_mens_of m v (by unfold ckMV at hc1; split at hc1 <;> omega) (by unfold ckMV at hc1; split at hc1 <;> omega)) rfl ?_
  refine Ex.pur (P_assign rfl) rfl ?_
  refine Ex.pur (P_assign rfl) rfl ?_
  refine Ex.nil ?_
  refine X.ret ?_
  refine RetQ.ret (.many (by decide) (.cons (.tmp rfl (LeV.eq ?_)) (.cons (.tmp rfl (LeV.eq ?_)) .nil)))
  all_goals (first | rfl | (simp_all; done))
end Go.Rse
