/-
  Walks: the ranges over backward lists, the perfect values.
-/
import Derived.Test.YteecbmgddacioaaIter1
namespace Go.Rse
open Go Go.Proofs
set_option linter.unusedVariables false
set_option linter.unusedSimpArgs false
attribute [local irreducible] Pur StepA StepM Ex X ExG Fn Imp LeV LeB FnO It YStep
theorem C_slices_Backward_int_int (l : List Int) : Fn Try.prog 200 [intsA l] (.fn 210 [.ept (fun _ : Unit => [.sl intE l]) () 0]) := by
  refine Fn.intro (ts := [(0, intsA l)]) (rv := [.tmp 2]) (n := 4) (by kernel_rfl) Try.func200 rfl Try.ntmps200 rfl rfl rfl (by simp) (fun g w d => ?_)
  refine X.seq ?_
  refine X.region ?_
  refine Ex.stepA (A_box (k := 1) rfl rfl rfl) rfl rfl ?_
  refine Ex.pur (P_assign rfl) rfl ?_
  refine Ex.nil ?_
  refine X.seq ?_
  refine X.region ?_
  refine Ex.pur (P_makeFunc rfl) rfl ?_
  refine Ex.pur (P_assign rfl) rfl ?_
  refine Ex.nil ?_
  refine X.ret ?_
  refine RetQ.imp (Imp.freezeBox (k := 1) rfl rfl) ?_
  refine RetQ.ret (.one (.tmp rfl (LeV.eq ?_)))
  all_goals (first | rfl | (simp_all; done))
theorem C_slices_Clone_int_int (l : List Int) (hl : l.length ≤ 4000000000) : FnO Try.prog 195 [intsA l] [] [] (.own 5) [(5, .row intE l 3 1)] := by
  refine FnO.intro (ts := [(0, intsA l)]) (rv := [.tmp 2]) (n := 8) (cs := []) (by kernel_rfl) Try.func195 rfl Try.ntmps195 rfl rfl (by simp) rfl rfl rfl rfl (fun g w d vs => ?_)
  refine X.seq ?_
  refine X.region ?_
  refine Ex.pur (P_assign rfl) rfl ?_
  refine Ex.nil ?_
  refine X.seq ?_
  refine X.seq ?_
  refine X.region ?_
  refine Ex.pur (P_move rfl) rfl ?_
  refine Ex.eqNil rfl sl29 rfl (fun b hb => ?_)
  refine Ex.nil ?_
  refine X.cond rfl (fun hc1 => ?_) (fun hc1 => ?_)
  · try simp only [decide_eq_true_eq, decide_eq_false_iff_not, Bool.not_eq_true', Bool.not_eq_false', Bool.and_eq_true, Bool.or_eq_true, Bool.and_eq_false_iff, Bool.or_eq_false_iff, Int.not_lt, Int.not_le, Decidable.not_not] at hc1
    have hl0 := hb hc1
    subst hl0
    subst hc1
    refine X.seq ?_
    refine X.region ?_
    refine Ex.pur (P_assign rfl) rfl ?_
    refine Ex.nil ?_
    refine X.ret ?_
    refine RetQO.imp (Imp.mkrow intE 3 1 2 5 rfl rfl) ?_
    refine RetQO.mk (ts := [(2, .own 5)]) (.inr rfl) (Imp.of (by (repeat' (first | exact True.intro | (refine And.intro ⟨_, rfl, ?_⟩ ?_; (first | exact LeV.refl _ | exact LeV.any _ | exact LeB.refl _ | (refine LeV.eq ?_; simp; done) | (refine LeV.eq ?_; congr 1; omega) | exact LeV.nils _ | (refine LeB.eq ?_; congr 1; omega) | (refine LeB.eq ?_; congr 1; simp only [cond_true, cond_false]; omega)))))) (by (repeat' (first | exact True.intro | (refine And.intro ⟨_, rfl, ?_⟩ ?_; (first | exact LeV.refl _ | exact LeV.any _ | exact LeB.refl _ | (refine LeV.eq ?_; simp; done) | (refine LeV.eq ?_; congr 1; omega) | exact LeV.nils _ | (refine LeB.eq ?_; congr 1; omega) | (refine LeB.eq ?_; congr 1; simp only [cond_true, cond_false]; omega))))))) (.one (.tmp rfl (LeV.eq rfl)))
  try simp only [decide_eq_true_eq, decide_eq_false_iff_not, Bool.not_eq_true', Bool.not_eq_false', Bool.and_eq_true, Bool.or_eq_true, Bool.and_eq_false_iff, Bool.or_eq_false_iff, Int.not_lt, Int.not_le, Decidable.not_not] at hc1
  refine X.skip ?_
  refine X.seq ?_
  refine X.region ?_
  refine Ex.stepA (A_buildSlice (k := 5) (enc := intE) (l := []) sl29 ty3 ze3 (by decide) rfl rfl rfl rfl (by decide) (by decide) (fun _ => rfl) rfl) rfl rfl ?_
  refine Ex.pur (P_move rfl) rfl ?_
  first
    | (refine Ex.stepM (M_append_own rfl rfl rfl rfl sl29 ti3 (by decide) (by decide) (fun _ => rfl) (fun _ => rfl) ?_ rfl) ?_; iterate 1 (· first | assumption | rfl | (simp_all; done) | omega | (simp; done) | (simp; omega)))
    | (refine Ex.stepM (M_append_sl rfl rfl rfl sl29 ti3 (by decide) (by decide) (fun _ => rfl) (fun _ => rfl) ?_ rfl) ?_; iterate 1 (· first | assumption | rfl | (simp_all; done) | omega | (simp; done) | (simp; omega)))
  refine Ex.pur (P_assign rfl) rfl ?_
  refine Ex.nil ?_
  refine X.ret ?_
  refine RetQO.mk (ts := [(2, .own 5)]) (.inr rfl) (Imp.of (by (repeat' (first | exact True.intro | (refine And.intro ⟨_, rfl, ?_⟩ ?_; (first | exact LeV.refl _ | exact LeV.any _ | exact LeB.refl _ | (refine LeV.eq ?_; simp; done) | (refine LeV.eq ?_; congr 1; omega) | exact LeV.nils _ | (refine LeB.eq ?_; congr 1; omega) | (refine LeB.eq ?_; congr 1; simp only [cond_true, cond_false]; omega)))))) (by (repeat' (first | exact True.intro | (refine And.intro ⟨_, rfl, ?_⟩ ?_; (first | exact LeV.refl _ | exact LeV.any _ | exact LeB.refl _ | (refine LeV.eq ?_; simp; done) | (refine LeV.eq ?_; congr 1; omega) | exact LeV.nils _ | (refine LeB.eq ?_; congr 1; omega) | (refine LeB.eq ?_; congr 1; simp only [cond_true, cond_false]; omega))))))) (.one (.tmp rfl (LeV.eq rfl)))
/-- The perfect values, from the smallest. -/
def perfL (m : Mn) : List Int := ([4, 3, 2, 1] : List Int).filter fun v => decide (m.p v = 3)
def perfX (m : Mn) : List (List AV) := (perfL m).map fun v => [iv v]
def pcnt (m : Mn) (j : Nat) : Nat := ((([4, 3, 2, 1] : List Int).take j).filter fun v => decide (m.p v = 3)).length
def mnL (m : Mn) : List Int := [m.Max, m.Mod, m.Tem, m.Pro]
theorem mnL_get (m : Mn) (j : Nat) (h : j < 4) : (mnL m).getD (4 - 1 - j) 0 = m.p (4 - j) := by
  have : j = 0 ∨ j = 1 ∨ j = 2 ∨ j = 3 := by omega
  rcases this with rfl | rfl | rfl | rfl <;> rfl
theorem perf_yes (m : Mn) (j : Nat) (h : j < 4) (hp : m.p (4 - j) = 3) : (perfX m)[pcnt m j]? = some [iv (4 - j)] ∧ pcnt m (j + 1) = pcnt m j + 1 := by
  have : j = 0 ∨ j = 1 ∨ j = 2 ∨ j = 3 := by omega
  rcases this with rfl | rfl | rfl | rfl <;> simp at hp <;> simp [perfX, perfL, pcnt, List.filter_cons, hp]
  · split <;> simp
  · split <;> split <;> simp
  · split <;> split <;> split <;> simp
theorem perf_no (m : Mn) (j : Nat) (h : j < 4) (hp : ¬ m.p (4 - j) = 3) : pcnt m (j + 1) = pcnt m j := by
  have : j = 0 ∨ j = 1 ∨ j = 2 ∨ j = 3 := by omega
  rcases this with rfl | rfl | rfl | rfl <;> simp at hp <;> simp [pcnt, List.filter_cons, hp]
theorem perf_end (m : Mn) : pcnt m 4 = (perfX m).length := by simp [perfX, perfL, pcnt]
theorem C_mens_perfect_1 (m : Mn) : It Try.prog 199 [.ept (fun _ : Unit => mnE m) () 0] (perfX m) := by
  refine It.intro (ts := fun lY => [(0, .yv lY), (1, .ept (fun _ : Unit => mnE m) () 0)]) (n := 29) (by kernel_rfl) Try.func199 rfl Try.ntmps199 rfl (fun _ => rfl) (by simp) (fun g w d ds Y lY hY => ?_)
  refine X.seq ?_
  refine X.region ?_
  refine Ex.stepA (A_box (k := 2) rfl rfl rfl) rfl rfl ?_
  refine Ex.nil ?_
  refine X.seq ?_
  refine X.region ?_
  refine Ex.stepA (A_buildSlice (k := 5) (enc := intE) (l := []) sl29 ty3 ze3 (by decide) rfl rfl rfl rfl (by decide) (by decide) (fun _ => rfl) rfl) rfl rfl ?_
  first
    | refine Ex.pur (P_fieldAddr_ptr rfl fo23_0) rfl ?_
    | refine Ex.pur (P_fieldAddr_ept rfl fo23_0) rfl ?_
  first
    | refine Ex.pur (P_load_box rfl rfl rfl ty3) rfl ?_
    | refine Ex.pur (P_load_ept rfl rfl rfl ty3) rfl ?_
    | refine Ex.pur (P_load_row rfl rfl (by assumption) rfl rfl ty3) rfl ?_
  first
    | refine Ex.pur (P_fieldAddr_ptr rfl fo23_1) rfl ?_
    | refine Ex.pur (P_fieldAddr_ept rfl fo23_1) rfl ?_
  first
    | refine Ex.pur (P_load_box rfl rfl rfl ty3) rfl ?_
    | refine Ex.pur (P_load_ept rfl rfl rfl ty3) rfl ?_
    | refine Ex.pur (P_load_row rfl rfl (by assumption) rfl rfl ty3) rfl ?_
  first
    | refine Ex.pur (P_fieldAddr_ptr rfl fo23_2) rfl ?_
    | refine Ex.pur (P_fieldAddr_ept rfl fo23_2) rfl ?_
  first
    | refine Ex.pur (P_load_box rfl rfl rfl ty3) rfl ?_
    | refine Ex.pur (P_load_ept rfl rfl rfl ty3) rfl ?_
    | refine Ex.pur (P_load_row rfl rfl (by assumption) rfl rfl ty3) rfl ?_
  first
    | refine Ex.pur (P_fieldAddr_ptr rfl fo23_3) rfl ?_
    | refine Ex.pur (P_fieldAddr_ept rfl fo23_3) rfl ?_
  first
    | refine Ex.pur (P_load_box rfl rfl rfl ty3) rfl ?_
    | refine Ex.pur (P_load_ept rfl rfl rfl ty3) rfl ?_
    | refine Ex.pur (P_load_row rfl rfl (by assumption) rfl rfl ty3) rfl ?_
  refine Ex.stepA (A_buildSlice (k := 14) (enc := intE) (l := [_, _, _, _]) sl29 ty3 ze3 (by decide) rfl rfl rfl rfl (by decide) (by decide) (fun _ => rfl) rfl) rfl rfl ?_
  first
    | (refine Ex.stepM (M_append_own rfl rfl rfl rfl sl29 ti3 (by decide) (by decide) (fun _ => rfl) (fun _ => rfl) ?_ rfl) ?_; iterate 1 (· first | assumption | rfl | (simp_all; done) | omega | (simp; done) | (simp; omega)))
    | (refine Ex.stepM (M_append_sl rfl rfl rfl sl29 ti3 (by decide) (by decide) (fun _ => rfl) (fun _ => rfl) ?_ rfl) ?_; iterate 1 (· first | assumption | rfl | (simp_all; done) | omega | (simp; done) | (simp; omega)))
  refine Ex.imp (Imp.freeze (k := 5) rfl) ?_
  refine Ex.callO' [(5, 16)] (C_slices_Clone_int_int (mnL m) (by simp [mnL])) rfl rfl rfl (LeL.refl _) rfl rfl trivial rfl rfl rfl rfl ?_
  refine Ex.imp (Imp.freeze (k := 16) rfl) ?_
  refine Ex.call rfl rfl rfl (C_slices_Backward_int_int (mnL m)) rfl ?_
  refine Ex.nil ?_
  refine X.block ?_
  refine X.range (sl := [2]) (fun j => ([.ptr 2 0 0 0], [(2, .box [.yv lY] 96), (1000000, .yld (pcnt m j) true)])) (fun j => True) 900001 900002 rfl rfl (by decide) (fun j zs hj => by obtain ⟨_, rfl⟩ := backI_inv hj; rfl) (C_slices_Backward_int_int_1 (mnL m) (by simp [mnL])) trivial rfl rfl (by decide) (Nat.le_refl _) (by simp) (fun j zs hj => by obtain ⟨_, rfl⟩ := backI_inv hj; rfl) (fun _ => rfl) rfl rfl (fun l o us => Imp.of (by (repeat' (first | exact True.intro | (refine And.intro ⟨_, rfl, ?_⟩ ?_; (first | exact LeV.refl _ | exact LeV.any _ | exact LeB.refl _ | (refine LeV.eq ?_; simp; done) | (refine LeV.eq ?_; congr 1; omega) | exact LeV.nils _ | (refine LeB.eq ?_; congr 1; omega) | (refine LeB.eq ?_; congr 1; simp only [cond_true, cond_false]; omega)))))) (by (repeat' (first | exact True.intro | (refine And.intro ⟨_, rfl, ?_⟩ ?_; (first | exact LeV.refl _ | exact LeV.any _ | exact LeB.refl _ | (refine LeV.eq ?_; simp; done) | (refine LeV.eq ?_; congr 1; omega) | exact LeV.nils _ | (refine LeB.eq ?_; congr 1; omega) | (refine LeB.eq ?_; congr 1; simp only [cond_true, cond_false]; omega))))))) (trivial) (fun j zs hj hJ l ready busy rb vs g w hb hyB => ?_) (fun hJ => ?_)
  · obtain ⟨hj4, rfl⟩ := backI_inv hj
    have hj4 : j < 4 := hj4
    have hv : (mnL m).getD ((mnL m).length - 1 - j) 0 = m.p (4 - j) := mnL_get m j hj4
    have hl4 : (mnL m).length = 4 := rfl
    refine X.seq ?_
    refine X.region ?_
    refine Ex.pur (P_assign rfl) rfl ?_
    refine Ex.nil ?_
    refine X.region ?_
    refine Ex.pur (P_assign rfl) rfl ?_
    refine Ex.nil ?_
    refine ⟨rfl, rfl, ?_⟩
    refine X.block ?_
    refine X.seq ?_
    refine X.region ?_
    refine Ex.pur (P_move rfl) rfl ?_
    refine Ex.pur (P_eql rfl rfl) rfl ?_
    refine Ex.pur (P_move rfl) rfl ?_
    refine Ex.gcase (t := 22) true rfl (fun hg2 => ?_) (fun hg2 => ?_)
    · first
        | (refine Ex.gT rfl rfl ?_ ((P_load_box rfl rfl rfl ty96).stepA) rfl rfl ?_; iterate 1 (· first | exact hg2 | assumption | rfl | (simp_all; done) | omega))
        | (refine Ex.gT rfl rfl ?_ ((P_load_ept rfl rfl rfl ty96).stepA) rfl rfl ?_; iterate 1 (· first | exact hg2 | assumption | rfl | (simp_all; done) | omega))
        | (refine Ex.gT rfl rfl ?_ ((P_load_row rfl rfl (by assumption) rfl rfl ty96).stepA) rfl rfl ?_; iterate 1 (· first | exact hg2 | assumption | rfl | (simp_all; done) | omega))
      (refine Ex.gT rfl rfl ?_ ((P_move rfl).stepA) rfl rfl ?_; iterate 1 (· first | exact hg2 | assumption | rfl | (simp_all; done) | omega))
      (refine Ex.gT rfl rfl ?_ ((P_add rfl rfl (IntWalk.i64_in _ (by omega))).stepA) rfl rfl ?_; iterate 1 (· first | exact hg2 | assumption | rfl | (simp_all; done) | omega))
      have hp3 : m.p (4 - j) = 3 := by rw [← hv]; simpa using hg2
      obtain ⟨hq1, hq2⟩ := perf_yes m j hj4 hp3
      refine Ex.yieldG hY rfl rfl rfl (fun _ => ⟨_, _, rfl, rfl, rfl, .cons (LeV.eq (by congr 1; omega)) .nil, rfl, rfl, hq1, fun b => ?_⟩) (fun h => absurd (h.symm.trans hg2) (by decide))
      (refine Ex.gT rfl rfl ?_ ((P_not rfl).stepA) rfl rfl ?_; iterate 1 (· first | exact hg2 | assumption | rfl | (simp_all; done) | omega))
      first
        | refine Ex.pur (P_and rfl rfl) rfl ?_
        | refine Ex.pur (P_or rfl rfl) rfl ?_
        | (refine Ex.pur (P_pick_true rfl ?_ rfl) rfl ?_; iterate 1 (· first | assumption | rfl | (simp_all; done) | omega | (simp; done) | (simp; omega)))
        | (refine Ex.pur (P_pick_false rfl ?_ rfl) rfl ?_; iterate 1 (· first | assumption | rfl | (simp_all; done) | omega | (simp; done) | (simp; omega)))
      refine Ex.nil ?_
      refine X.cond rfl (fun hc1 => ?_) (fun hc1 => ?_)
      · try simp only [decide_eq_true_eq, decide_eq_false_iff_not, Bool.not_eq_true', Bool.not_eq_false', Bool.and_eq_true, Bool.or_eq_true, Bool.and_eq_false_iff, Bool.or_eq_false_iff, Int.not_lt, Int.not_le, Decidable.not_not] at hc1
        subst hc1
        refine X.ret ?_
        refine ⟨[.ptr 2 0 0 0], [(2, .box [.yv lY] 96), (1000000, .yld (pcnt m j) false)], Imp.of (by (repeat' (first | exact True.intro | (refine And.intro ⟨_, rfl, ?_⟩ ?_; (first | exact LeV.refl _ | exact LeV.any _ | exact LeB.refl _ | (refine LeV.eq ?_; simp; done) | (refine LeV.eq ?_; congr 1; omega) | exact LeV.nils _ | (refine LeB.eq ?_; congr 1; omega) | (refine LeB.eq ?_; congr 1; simp only [cond_true, cond_false]; omega)))))) (by (repeat' (first | exact True.intro | (refine And.intro ⟨_, rfl, ?_⟩ ?_; (first | exact LeV.refl _ | exact LeV.any _ | exact LeB.refl _ | (refine LeV.eq ?_; simp; done) | (refine LeV.eq ?_; congr 1; omega) | exact LeV.nils _ | (refine LeB.eq ?_; congr 1; omega) | (refine LeB.eq ?_; congr 1; simp only [cond_true, cond_false]; omega)))))), ?_⟩
        refine ⟨.inr rfl, _, false, rfl, fun hb => by simp at hb⟩
      try simp only [decide_eq_true_eq, decide_eq_false_iff_not, Bool.not_eq_true', Bool.not_eq_false', Bool.and_eq_true, Bool.or_eq_true, Bool.and_eq_false_iff, Bool.or_eq_false_iff, Int.not_lt, Int.not_le, Decidable.not_not] at hc1
      subst hc1
      refine X.skip ?_
      refine ⟨[.ptr 2 0 0 0], [(2, .box [.yv lY] 96), (1000000, .yld (pcnt m (j + 1)) true)], Imp.of (by (repeat' (first | exact True.intro | (refine And.intro ⟨_, rfl, ?_⟩ ?_; (first | exact LeV.refl _ | exact LeV.any _ | exact LeB.refl _ | (refine LeV.eq ?_; simp; done) | (refine LeV.eq ?_; congr 1; omega) | exact LeV.nils _ | (refine LeB.eq ?_; congr 1; omega) | (refine LeB.eq ?_; congr 1; simp only [cond_true, cond_false]; omega)))))) (by (repeat' (first | exact True.intro | (refine And.intro ⟨_, rfl, ?_⟩ ?_; (first | exact LeV.refl _ | exact LeV.any _ | exact LeB.refl _ | (refine LeV.eq ?_; simp; done) | (refine LeV.eq ?_; congr 1; omega) | exact LeV.nils _ | (refine LeB.eq ?_; congr 1; omega) | (refine LeB.eq ?_; congr 1; simp only [cond_true, cond_false]; omega)))))), rfl, trivial⟩
    · (refine Ex.gF rfl rfl ?_ rfl ?_; · first | exact hg2 | (simp_all; done))
      (refine Ex.gF rfl rfl ?_ rfl ?_; · first | exact hg2 | (simp_all; done))
      (refine Ex.gF rfl rfl ?_ rfl ?_; · first | exact hg2 | (simp_all; done))
      (refine Ex.gF rfl rfl ?_ rfl ?_; · first | exact hg2 | (simp_all; done))
      (refine Ex.gF rfl rfl ?_ rfl ?_; · first | exact hg2 | (simp_all; done))
      first
        | refine Ex.pur (P_and rfl rfl) rfl ?_
        | refine Ex.pur (P_or rfl rfl) rfl ?_
        | (refine Ex.pur (P_pick_true rfl ?_ rfl) rfl ?_; iterate 1 (· first | assumption | rfl | (simp_all; done) | omega | (simp; done) | (simp; omega)))
        | (refine Ex.pur (P_pick_false rfl ?_ rfl) rfl ?_; iterate 1 (· first | assumption | rfl | (simp_all; done) | omega | (simp; done) | (simp; omega)))
      refine Ex.nil ?_
      refine X.cond rfl (fun hc2 => ?_) (fun hc2 => ?_)
      · try simp only [decide_eq_true_eq, decide_eq_false_iff_not, Bool.not_eq_true', Bool.not_eq_false', Bool.and_eq_true, Bool.or_eq_true, Bool.and_eq_false_iff, Bool.or_eq_false_iff, Int.not_lt, Int.not_le, Decidable.not_not] at hc2
        exact absurd hc2 (by decide)
      try simp only [decide_eq_true_eq, decide_eq_false_iff_not, Bool.not_eq_true', Bool.not_eq_false', Bool.and_eq_true, Bool.or_eq_true, Bool.and_eq_false_iff, Bool.or_eq_false_iff, Int.not_lt, Int.not_le, Decidable.not_not] at hc2
      have hp3 : ¬ m.p (4 - j) = 3 := by rw [← hv]; simpa using hg2
      have hq2 := perf_no m j hj4 hp3
      refine X.skip ?_
      refine ⟨[.ptr 2 0 0 0], [(2, .box [.yv lY] 96), (1000000, .yld (pcnt m (j + 1)) true)], Imp.of (by (repeat' (first | exact True.intro | (refine And.intro ⟨_, rfl, ?_⟩ ?_; (first | exact LeV.refl _ | exact LeV.any _ | exact LeB.refl _ | (refine LeV.eq ?_; simp; done) | (refine LeV.eq ?_; congr 1; omega) | exact LeV.nils _ | (refine LeB.eq ?_; congr 1; omega) | (refine LeB.eq ?_; congr 1; simp only [cond_true, cond_false]; omega)))))) (by (repeat' (first | exact True.intro | (refine And.intro ⟨_, rfl, ?_⟩ ?_; (first | exact LeV.refl _ | exact LeV.any _ | exact LeB.refl _ | (refine LeV.eq ?_; simp; done) | (refine LeV.eq ?_; congr 1; omega) | exact LeV.nils _ | (refine LeB.eq ?_; congr 1; omega) | (refine LeB.eq ?_; congr 1; simp only [cond_true, cond_false]; omega)))))), rfl, trivial⟩
  refine ⟨.inl rfl, _, true, rfl, fun _ => perf_end m⟩
theorem C_mens_perfect (m : Mn) : Fn Try.prog 157 [mnA m] (.fn 199 [.ept (fun _ : Unit => mnE m) () 0]) := by
  refine Fn.intro (ts := [(0, mnA m)]) (rv := [.tmp 2]) (n := 4) (by kernel_rfl) Try.func157 rfl Try.ntmps157 rfl rfl rfl (by simp) (fun g w d => ?_)
  refine X.seq ?_
  refine X.region ?_
  refine Ex.stepA (A_box_agg (k := 1) rfl rfl) rfl rfl ?_
  refine Ex.pur (P_assign rfl) rfl ?_
  refine Ex.nil ?_
  refine X.seq ?_
  refine X.region ?_
  refine Ex.pur (P_makeFunc rfl) rfl ?_
  refine Ex.pur (P_assign rfl) rfl ?_
  refine Ex.nil ?_
  refine X.ret ?_
  refine RetQ.imp (Imp.freezeBox (k := 1) rfl rfl) ?_
  refine RetQ.ret (.one (.tmp rfl (LeV.eq ?_)))
  all_goals (first | rfl | (simp_all; done))
end Go.Rse
