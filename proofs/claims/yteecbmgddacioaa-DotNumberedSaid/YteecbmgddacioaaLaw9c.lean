/-
  Walks: the chapter's examples on dots.
-/
import Derived.Test.YteecbmgddacioaaLaw9b
import Derived.Test.YteecbmgddacioaaRse27
namespace Go.Rse
open Go Go.Proofs
set_option linter.unusedVariables false
set_option linter.unusedSimpArgs false
attribute [local irreducible] Pur StepA StepM Ex X ExG Fn Imp LeV LeB FnO It YStep
def mHalf : Mn := ⟨2, 2, 2, 2⟩
def mProl : Mn := ⟨2, 2, 2, 3⟩
def mModus : Mn := ⟨2, 3, 3, 2⟩
def sgCol : Sg := ⟨1, 4, 0, 0, true, 0, false, false, ⟨0, 0, 0, 0⟩, false, 0, 0, 0, 0⟩
theorem C_means_R (m : Mn) (l : List Sg) (mns : List (List Int)) (rule : List Int) (hl : l.length ≤ 60) (h0 : ckR m l = 0) (h1 : mnsR m l = mns) (h2 : ruleR m l = rule) : Fn Try.prog 50 [mnA m, sgsA l, listsA mns, intsA rule] (.bool true) := by
  have h : ckD m l = 0 := by rw [ckD_R]; exact h0
  have := C_tactuslaw09_means m l hl h
  rw [mnsD_R h, ruleD_R h, h1, h2] at this
  exact this
def exS : List Sg := [sgNote 4, sgDot, sgNote 5]
theorem exB_mns : mnsD mCirc exB = [[0, 3], [0, 3]] := by rw [mnsD_R exB_ck]; decide
theorem exOf : ofL mCirc exB 1 = [0, 3] ∧ ofE mCirc exB 1 = 0 := by
  have hE : ofE mCirc exB 1 = 0 := by unfold ofE; rw [exB_cnt.2, exB_cnt.1]; decide
  refine ⟨?_, hE⟩
  unfold ofL; rw [if_pos hE, exB_mns]; decide
theorem exS_ck : ckD mCirc exS = 0 := by rw [ckD_R]; decide
theorem exS_mns : mnsD mCirc exS = [[0, 3]] := by rw [mnsD_R exS_ck]; decide
theorem exMk1 : mkC mCirc exS [3] = [3, 0] ∧ mkA mCirc exS [3] = [false, false] ∧ mkE mCirc exS [3] = 0 := by
  have hE : mkE mCirc exS [3] = 0 := by unfold mkE; rw [if_pos exS_ck, exS_mns]; decide
  refine ⟨?_, ?_, hE⟩
  · unfold mkC; rw [if_pos hE]; decide
  · unfold mkA; rw [if_pos hE]; decide
theorem exMk2 : mkC mCirc exS [4] = [] ∧ mkA mCirc exS [4] = [] ∧ mkE mCirc exS [4] = 2 := by
  have hE : mkE mCirc exS [4] = 2 := by unfold mkE; rw [if_pos exS_ck, exS_mns]; decide
  refine ⟨?_, ?_, hE⟩
  · unfold mkC; rw [if_neg (by rw [hE]; decide)]
  · unfold mkA; rw [if_neg (by rw [hE]; decide)]
theorem C_check_R (m : Mn) (l : List Sg) (e : Int) (hl : l.length ≤ 60) (h0 : ckR m l = e) : Fn Try.prog 40 [mnA m, sgsA l] (iv e) := by
  have := C_dot_Check m l hl
  rw [ckD_R, h0] at this
  exact this
theorem C_tactuslaw09_rest (v : Int) : Fn Try.prog 54 [iv v] (sgA (sgRest v)) := by
  refine Fn.intro (ts := [(0, iv v)]) (rv := [.cell 2 64]) (n := 5) (by kernel_rfl) Try.func54 rfl Try.ntmps54 rfl rfl rfl (by simp) (fun g w d => ?_)
  refine X.seq ?_
  refine X.region ?_
  refine Ex.stepA (A_alloc (k := 2) zc64) rfl rfl ?_
  refine Ex.nil ?_
  refine X.seq ?_
  refine X.region ?_
  refine Ex.pur (P_move rfl) rfl ?_
  refine Ex.pur (P_build pl64 ia64 zc64 rfl rfl rfl) rfl ?_
  refine Ex.stepM (M_store_agg rfl rfl rfl rfl ty64 rfl (leB rfl)) ?_
  refine Ex.nil ?_
  refine X.ret ?_
  refine RetQ.ret (.one (.cellA rfl rfl rfl rfl ty64 (LeV.eq ?_)))
  all_goals (first | rfl | (simp_all; done))
theorem C_tactuslaw09_half  : Fn Try.prog 56 [] (mnA mHalf) := by
  refine Fn.intro (ts := []) (rv := [.cell 0 23]) (n := 2) (by kernel_rfl) Try.func56 rfl Try.ntmps56 rfl rfl rfl (by simp) (fun g w d => ?_)
  refine X.seq ?_
  refine X.region ?_
  refine Ex.stepA (A_alloc (k := 0) zc23) rfl rfl ?_
  refine Ex.nil ?_
  refine X.seq ?_
  refine X.region ?_
  refine Ex.pur (P_build pl23 ia23 zc23 rfl rfl rfl) rfl ?_
  refine Ex.stepM (M_store_agg rfl rfl rfl rfl ty23 rfl (leB rfl)) ?_
  refine Ex.nil ?_
  refine X.ret ?_
  refine RetQ.ret (.one (.cellA rfl rfl rfl rfl ty23 (LeV.eq ?_)))
  all_goals (first | rfl | (simp_all; done))
theorem C_tactuslaw09_prolation  : Fn Try.prog 55 [] (mnA mProl) := by
  refine Fn.intro (ts := []) (rv := [.cell 0 23]) (n := 2) (by kernel_rfl) Try.func55 rfl Try.ntmps55 rfl rfl rfl (by simp) (fun g w d => ?_)
  refine X.seq ?_
  refine X.region ?_
  refine Ex.stepA (A_alloc (k := 0) zc23) rfl rfl ?_
  refine Ex.nil ?_
  refine X.seq ?_
  refine X.region ?_
  refine Ex.pur (P_build pl23 ia23 zc23 rfl rfl rfl) rfl ?_
  refine Ex.stepM (M_store_agg rfl rfl rfl rfl ty23 rfl (leB rfl)) ?_
  refine Ex.nil ?_
  refine X.ret ?_
  refine RetQ.ret (.one (.cellA rfl rfl rfl rfl ty23 (LeV.eq ?_)))
  all_goals (first | rfl | (simp_all; done))
theorem C_tactuslaw09_modus  : Fn Try.prog 57 [] (mnA mModus) := by
  refine Fn.intro (ts := []) (rv := [.cell 0 23]) (n := 2) (by kernel_rfl) Try.func57 rfl Try.ntmps57 rfl rfl rfl (by simp) (fun g w d => ?_)
  refine X.seq ?_
  refine X.region ?_
  refine Ex.stepA (A_alloc (k := 0) zc23) rfl rfl ?_
  refine Ex.nil ?_
  refine X.seq ?_
  refine X.region ?_
  refine Ex.pur (P_build pl23 ia23 zc23 rfl rfl rfl) rfl ?_
  refine Ex.stepM (M_store_agg rfl rfl rfl rfl ty23 rfl (leB rfl)) ?_
  refine Ex.nil ?_
  refine X.ret ?_
  refine RetQ.ret (.one (.cellA rfl rfl rfl rfl ty23 (LeV.eq ?_)))
  all_goals (first | rfl | (simp_all; done))
set_option maxHeartbeats 8000000 in
set_option maxRecDepth 100000 in
theorem C_tactuslaw09_DotKnown  : Fn Try.prog 6 [] (.bool true) := by
  have hOf := C_dot_Of mCirc exB (by decide) 1
  rw [exOf.1, exOf.2] at hOf
  have hMk1 := C_dot_Marks mCirc exS (by decide) [3]
  rw [exMk1.1, exMk1.2.1, exMk1.2.2] at hMk1
  have hMk2 := C_dot_Marks mCirc exS (by decide) [4]
  rw [exMk2.1, exMk2.2.1, exMk2.2.2] at hMk2
  refine Fn.intro (ts := []) (rv := [.tmp 0]) (n := 228) (by kernel_rfl) Try.func6 rfl Try.ntmps6 rfl rfl rfl (by simp) (fun g w d => ?_)
  refine X.seq ?_
  refine X.region ?_
  refine Ex.pur (P_assign rfl) rfl ?_
  refine Ex.nil ?_
  refine X.seq ?_
  refine X.region ?_
  refine Ex.call rfl rfl rfl (C_tactuslaw09_note _) rfl ?_
  refine Ex.stepA (A_alloc (k := 1) zc64) rfl rfl ?_
  refine Ex.stepM (M_store_agg rfl rfl rfl rfl ty64 rfl (leB rfl)) ?_
  refine Ex.nil ?_
  refine X.seq ?_
  refine X.region ?_
  first
    | refine Ex.pur (P_fieldAddr_ptr rfl fo64_4) rfl ?_
    | refine Ex.pur (P_fieldAddr_ept rfl fo64_4) rfl ?_
  first
    | refine Ex.stepM (M_store rfl rfl rfl rfl ty4 (ltB rfl)) ?_
    | (refine Ex.stepM (M_store_row _ rfl rfl (fun _ => rfl) (by decide) ?_ rfl rfl rfl rfl rfl ty4) ?_; iterate 1 (· first | assumption | rfl | omega | (simp; done) | (simp; omega) | (simp_all; done)))
  refine Ex.nil ?_
  refine X.seq ?_
  refine X.region ?_
  refine Ex.call rfl rfl rfl C_tactuslaw09_circle rfl ?_
  refine Ex.call rfl rfl rfl (C_tactuslaw09_note _) rfl ?_
  refine Ex.call rfl rfl rfl C_tactuslaw09_point rfl ?_
  refine Ex.call rfl rfl rfl (C_tactuslaw09_note _) rfl ?_
  refine Ex.stepA (A_buildSliceF (enc := sgE) (l := [sgNote 4, sgDot, sgNote 5]) sl41 ty64 ze64 (by decide) rfl rfl rfl rfl (by decide) (by decide) (fun _ => rfl) rfl) rfl rfl ?_
  refine Ex.call rfl rfl rfl (C_tactuslaw09_run _) rfl ?_
  refine Ex.stepA (A_buildSliceF (enc := intE) (l := [0, 3]) sl29 ty3 ze3 (by decide) rfl rfl rfl rfl (by decide) (by decide) (fun _ => rfl) rfl) rfl rfl ?_
  refine Ex.stepA (A_buildSliceF (enc := intsE) (l := [[0, 3]]) sl43 ty29 ze29 (by decide) rfl rfl rfl rfl (by decide) (by decide) (fun _ => rfl) rfl) rfl rfl ?_
  refine Ex.stepA (A_buildSliceF (enc := intE) (l := [0]) sl29 ty3 ze3 (by decide) rfl rfl rfl rfl (by decide) (by decide) (fun _ => rfl) rfl) rfl rfl ?_
  refine Ex.call rfl rfl rfl (C_means_R mCirc [sgNote 4, sgDot, sgNote 5] [[0, 3]] [0] (by decide) (by decide) (by decide) (by decide)) rfl ?_
  refine Ex.pur (P_move rfl) rfl ?_
  refine Ex.gstart (t := 29) true rfl ?_
  refine ExG.step rfl rfl rfl (fun hg => A_call rfl rfl rfl (LeL.refl _) C_tactuslaw09_circle) rfl ?_
  refine ExG.step rfl rfl rfl (fun hg => A_call rfl rfl rfl (LeL.refl _) (C_tactuslaw09_note _)) rfl ?_
  refine ExG.step rfl rfl rfl (fun hg => A_call rfl rfl rfl (LeL.refl _) C_tactuslaw09_point) rfl ?_
  refine ExG.step rfl rfl rfl (fun hg => A_buildSliceF (enc := sgE) (l := [sgNote 4, sgDot]) sl41 ty64 ze64 (by decide) rfl rfl rfl rfl (by decide) (by decide) (fun _ => rfl) rfl) rfl ?_
  refine ExG.step rfl rfl rfl (fun hg => A_call rfl rfl rfl (LeL.refl _) (C_tactuslaw09_run _)) rfl ?_
  refine ExG.step rfl rfl rfl (fun hg => A_buildSliceF (enc := intE) (l := [0, 3]) sl29 ty3 ze3 (by decide) rfl rfl rfl rfl (by decide) (by decide) (fun _ => rfl) rfl) rfl ?_
  refine ExG.step rfl rfl rfl (fun hg => A_buildSliceF (enc := intsE) (l := [[0, 3]]) sl43 ty29 ze29 (by decide) rfl rfl rfl rfl (by decide) (by decide) (fun _ => rfl) rfl) rfl ?_
  refine ExG.step rfl rfl rfl (fun hg => A_buildSliceF (enc := intE) (l := [0]) sl29 ty3 ze3 (by decide) rfl rfl rfl rfl (by decide) (by decide) (fun _ => rfl) rfl) rfl ?_
  refine ExG.step rfl rfl rfl (fun hg => A_call rfl rfl rfl (LeL.refl _) (C_means_R mCirc [sgNote 4, sgDot] [[0, 3]] [0] (by decide) (by decide) (by decide) (by decide))) rfl ?_
  refine ExG.done ?_
  first
    | refine Ex.pur (P_and rfl rfl) rfl ?_
    | refine Ex.pur (P_or rfl rfl) rfl ?_
    | (refine Ex.pur (P_pick_true rfl ?_ rfl) rfl ?_; iterate 1 (· first | assumption | rfl | omega | (simp; done) | (simp; omega) | (simp_all; done)))
    | (refine Ex.pur (P_pick_false rfl ?_ rfl) rfl ?_; iterate 1 (· first | assumption | rfl | omega | (simp; done) | (simp; omega) | (simp_all; done)))
  refine Ex.pur (P_move rfl) rfl ?_
  refine Ex.gstart (t := 40) true rfl ?_
  refine ExG.step rfl rfl rfl (fun hg => A_call rfl rfl rfl (LeL.refl _) C_tactuslaw09_circle) rfl ?_
  refine ExG.step rfl rfl rfl (fun hg => A_call rfl rfl rfl (LeL.refl _) (C_tactuslaw09_note _)) rfl ?_
  refine ExG.step rfl rfl rfl (fun hg => A_call rfl rfl rfl (LeL.refl _) C_tactuslaw09_point) rfl ?_
  refine ExG.step rfl rfl rfl (fun hg => A_call rfl rfl rfl (LeL.refl _) (C_tactuslaw09_rest _)) rfl ?_
  refine ExG.step rfl rfl rfl (fun hg => A_buildSliceF (enc := sgE) (l := [sgNote 4, sgDot, sgRest 4]) sl41 ty64 ze64 (by decide) rfl rfl rfl rfl (by decide) (by decide) (fun _ => rfl) rfl) rfl ?_
  refine ExG.step rfl rfl rfl (fun hg => A_call rfl rfl rfl (LeL.refl _) (C_tactuslaw09_run _)) rfl ?_
  refine ExG.step rfl rfl rfl (fun hg => A_buildSliceF (enc := intE) (l := [0, 3]) sl29 ty3 ze3 (by decide) rfl rfl rfl rfl (by decide) (by decide) (fun _ => rfl) rfl) rfl ?_
  refine ExG.step rfl rfl rfl (fun hg => A_buildSliceF (enc := intsE) (l := [[0, 3]]) sl43 ty29 ze29 (by decide) rfl rfl rfl rfl (by decide) (by decide) (fun _ => rfl) rfl) rfl ?_
  refine ExG.step rfl rfl rfl (fun hg => A_buildSliceF (enc := intE) (l := [3]) sl29 ty3 ze3 (by decide) rfl rfl rfl rfl (by decide) (by decide) (fun _ => rfl) rfl) rfl ?_
  refine ExG.step rfl rfl rfl (fun hg => A_call rfl rfl rfl (LeL.refl _) (C_means_R mCirc [sgNote 4, sgDot, sgRest 4] [[0, 3]] [3] (by decide) (by decide) (by decide) (by decide))) rfl ?_
  refine ExG.done ?_
  first
    | refine Ex.pur (P_and rfl rfl) rfl ?_
    | refine Ex.pur (P_or rfl rfl) rfl ?_
    | (refine Ex.pur (P_pick_true rfl ?_ rfl) rfl ?_; iterate 1 (· first | assumption | rfl | omega | (simp; done) | (simp; omega) | (simp_all; done)))
    | (refine Ex.pur (P_pick_false rfl ?_ rfl) rfl ?_; iterate 1 (· first | assumption | rfl | omega | (simp; done) | (simp; omega) | (simp_all; done)))
  refine Ex.pur (P_assign rfl) rfl ?_
  refine Ex.nil ?_
  refine X.seq ?_
  have hzz : True := trivial
  · refine X.draw [3, 52, 53, 54, 55, 56, 57, 58, 59, 60, 61, 62, 63, 64, 65, 66, 67, 68, 69, 70, 71, 72, 73, 74, 75, 76, 77, 78, 79, 80, 81, 82, 83, 84] mo rfl ?_
    refine Chain.step [] rfl rfl rfl (A_call rfl rfl rfl (LeL.refl _) C_tactuslaw09_prolation) rfl ?_
    refine Chain.step [0] rfl rfl rfl (A_call rfl rfl rfl (LeL.refl _) (C_tactuslaw09_note _)) rfl ?_
    refine Chain.step [0, 1] rfl rfl rfl (A_call rfl rfl rfl (LeL.refl _) C_tactuslaw09_point) rfl ?_
    refine Chain.step [0, 1, 2] rfl rfl rfl (A_call rfl rfl rfl (LeL.refl _) (C_tactuslaw09_note _)) rfl ?_
    refine Chain.step [0, 3, 2, 1] rfl rfl rfl (A_buildSliceF (enc := sgE) (l := [sgNote 4, sgDot, sgNote 4]) sl41 ty64 ze64 (by decide) rfl rfl rfl rfl (by decide) (by decide) (fun _ => rfl) rfl) rfl ?_
    refine Chain.step [0, 2, 1, 3, 4] rfl rfl rfl (A_call rfl rfl rfl (LeL.refl _) (C_tactuslaw09_run _)) rfl ?_
    refine Chain.step [] rfl rfl rfl (A_buildSliceF (enc := intE) (l := [4]) sl29 ty3 ze3 (by decide) rfl rfl rfl rfl (by decide) (by decide) (fun _ => rfl) rfl) rfl ?_
    refine Chain.step [6] rfl rfl rfl (A_buildSliceF (enc := intsE) (l := [[4]]) sl43 ty29 ze29 (by decide) rfl rfl rfl rfl (by decide) (by decide) (fun _ => rfl) rfl) rfl ?_
    refine Chain.step [] rfl rfl rfl (A_buildSliceF (enc := intE) (l := [4]) sl29 ty3 ze3 (by decide) rfl rfl rfl rfl (by decide) (by decide) (fun _ => rfl) rfl) rfl ?_
    refine Chain.step [2, 1, 6, 3, 4, 8, 7, 5, 0] rfl rfl rfl (A_call rfl rfl rfl (LeL.refl _) (C_means_R mProl [sgNote 4, sgDot, sgNote 4] [[4]] [4] (by decide) (by decide) (by decide) (by decide))) rfl ?_
    refine Chain.step [2, 1, 6, 3, 4, 8, 7, 5, 0, 9] rfl rfl rfl (Pur.stepA (P_move rfl)) rfl ?_
    (refine Chain.gT [2, 1, 6, 3, 4, 8, 7, 5, 0, 9, 10] rfl rfl rfl rfl rfl ?_ (A_call rfl rfl rfl (LeL.refl _) C_tactuslaw09_half) rfl ?_; iterate 1 (· first | assumption | rfl | omega | (simp; done) | (simp; omega) | (simp_all; done)))
    (refine Chain.gT [2, 1, 6, 3, 4, 8, 7, 5, 0, 9, 10, 11] rfl rfl rfl rfl rfl ?_ (A_call rfl rfl rfl (LeL.refl _) (C_tactuslaw09_note _)) rfl ?_; iterate 1 (· first | assumption | rfl | omega | (simp; done) | (simp; omega) | (simp_all; done)))
    (refine Chain.gT [2, 1, 6, 3, 4, 8, 7, 5, 0, 9, 11, 10, 12] rfl rfl rfl rfl rfl ?_ (A_call rfl rfl rfl (LeL.refl _) C_tactuslaw09_point) rfl ?_; iterate 1 (· first | assumption | rfl | omega | (simp; done) | (simp; omega) | (simp_all; done)))
    (refine Chain.gT [2, 1, 6, 3, 4, 8, 7, 5, 0, 9, 11, 10, 13, 12] rfl rfl rfl rfl rfl ?_ (A_buildSliceF (enc := sgE) (l := [sgNote 4, sgDot]) sl41 ty64 ze64 (by decide) rfl rfl rfl rfl (by decide) (by decide) (fun _ => rfl) rfl) rfl ?_; iterate 1 (· first | assumption | rfl | omega | (simp; done) | (simp; omega) | (simp_all; done)))
    (refine Chain.gT [2, 1, 6, 3, 4, 8, 7, 5, 0, 11, 9, 12, 10, 13, 14] rfl rfl rfl rfl rfl ?_ (A_call rfl rfl rfl (LeL.refl _) (C_tactuslaw09_run _)) rfl ?_; iterate 1 (· first | assumption | rfl | omega | (simp; done) | (simp; omega) | (simp_all; done)))
    (refine Chain.gT [2, 1, 6, 3, 4, 8, 7, 5, 0, 9, 10] rfl rfl rfl rfl rfl ?_ (A_buildSliceF (enc := intE) (l := [0]) sl29 ty3 ze3 (by decide) rfl rfl rfl rfl (by decide) (by decide) (fun _ => rfl) rfl) rfl ?_; iterate 1 (· first | assumption | rfl | omega | (simp; done) | (simp; omega) | (simp_all; done)))
    (refine Chain.gT [2, 1, 6, 3, 4, 8, 7, 5, 0, 9, 10, 16] rfl rfl rfl rfl rfl ?_ (A_buildSliceF (enc := intsE) (l := [[0]]) sl43 ty29 ze29 (by decide) rfl rfl rfl rfl (by decide) (by decide) (fun _ => rfl) rfl) rfl ?_; iterate 1 (· first | assumption | rfl | omega | (simp; done) | (simp; omega) | (simp_all; done)))
    (refine Chain.gT [2, 1, 6, 3, 4, 8, 7, 5, 0, 9, 10] rfl rfl rfl rfl rfl ?_ (A_buildSliceF (enc := intE) (l := [0]) sl29 ty3 ze3 (by decide) rfl rfl rfl rfl (by decide) (by decide) (fun _ => rfl) rfl) rfl ?_; iterate 1 (· first | assumption | rfl | omega | (simp; done) | (simp; omega) | (simp_all; done)))
    (refine Chain.gT [2, 1, 6, 3, 4, 8, 7, 5, 0, 12, 9, 16, 13, 14, 10, 18, 17, 15, 11] rfl rfl rfl rfl rfl ?_ (A_call rfl rfl rfl (LeL.refl _) (C_means_R mHalf [sgNote 4, sgDot] [[0]] [0] (by decide) (by decide) (by decide) (by decide))) rfl ?_; iterate 1 (· first | assumption | rfl | omega | (simp; done) | (simp; omega) | (simp_all; done)))
    (refine Chain.step [2, 1, 12, 6, 3, 4, 16, 13, 14, 8, 7, 5, 0, 18, 17, 15, 11, 9, 19, 10] rfl rfl rfl (Pur.stepA (P_pick_true rfl ?_ rfl)) rfl ?_; iterate 1 (· first | assumption | rfl | omega | (simp; done) | (simp; omega) | (simp_all; done)))
    refine Chain.step [2, 1, 6, 3, 4, 12, 8, 7, 5, 0, 16, 13, 14, 9, 18, 17, 15, 11, 10, 19, 20] rfl rfl rfl (Pur.stepA (P_move rfl)) rfl ?_
    (refine Chain.gT [2, 1, 6, 3, 4, 12, 8, 7, 5, 0, 16, 13, 14, 9, 18, 17, 15, 11, 10, 19, 20, 21] rfl rfl rfl rfl rfl ?_ (A_call rfl rfl rfl (LeL.refl _) C_tactuslaw09_prolation) rfl ?_; iterate 1 (· first | assumption | rfl | omega | (simp; done) | (simp; omega) | (simp_all; done)))
    first
      | (refine Chain.gT [2, 1, 6, 3, 4, 12, 8, 7, 5, 0, 16, 13, 14, 9, 18, 17, 15, 11, 10, 19, 20, 21] rfl rfl rfl rfl rfl ?_ (Pur.stepA (P_load_box_all rfl rfl rfl rfl ty64)) rfl ?_; iterate 1 (· first | assumption | rfl | omega | (simp; done) | (simp; omega) | (simp_all; done)))
      | (refine Chain.gT [2, 1, 6, 3, 4, 12, 8, 7, 5, 0, 16, 13, 14, 9, 18, 17, 15, 11, 10, 19, 20, 21] rfl rfl rfl rfl rfl ?_ (Pur.stepA (P_load_ept_all rfl rfl rfl ty64)) rfl ?_; iterate 1 (· first | assumption | rfl | omega | (simp; done) | (simp; omega) | (simp_all; done)))
      | (refine Chain.gT [2, 1, 6, 3, 4, 12, 8, 7, 5, 0, 16, 13, 14, 9, 18, 17, 15, 11, 10, 19, 20, 21] rfl rfl rfl rfl rfl ?_ (Pur.stepA (P_load_ept_part rfl rfl rfl rfl ty64)) rfl ?_; iterate 1 (· first | assumption | rfl | omega | (simp; done) | (simp; omega) | (simp_all; done)))
      | (refine Chain.gT [2, 1, 6, 3, 4, 12, 8, 7, 5, 0, 16, 13, 14, 9, 18, 17, 15, 11, 10, 19, 20, 21] rfl rfl rfl rfl rfl ?_ (Pur.stepA (P_load_box_part rfl rfl rfl rfl ty64)) rfl ?_; iterate 1 (· first | assumption | rfl | omega | (simp; done) | (simp; omega) | (simp_all; done)))
    (refine Chain.gT [2, 1, 6, 3, 4, 12, 8, 7, 5, 0, 16, 13, 14, 9, 18, 17, 15, 11, 10, 19, 20, 21, 22] rfl rfl rfl rfl rfl ?_ (A_call rfl rfl rfl (LeL.refl _) C_tactuslaw09_point) rfl ?_; iterate 1 (· first | assumption | rfl | omega | (simp; done) | (simp; omega) | (simp_all; done)))
    (refine Chain.gT [2, 1, 6, 3, 4, 12, 8, 7, 5, 0, 16, 13, 14, 9, 18, 17, 15, 11, 10, 19, 20, 22, 21, 24] rfl rfl rfl rfl rfl ?_ (A_call rfl rfl rfl (LeL.refl _) (C_tactuslaw09_note _)) rfl ?_; iterate 1 (· first | assumption | rfl | omega | (simp; done) | (simp; omega) | (simp_all; done)))
    (refine Chain.gT [2, 1, 6, 3, 4, 12, 8, 7, 5, 0, 16, 13, 14, 9, 18, 17, 15, 11, 10, 19, 20, 22, 21, 25, 24, 23] rfl rfl rfl rfl rfl ?_ (A_buildSliceF (enc := sgE) (l := [sgCol, sgDot, sgNote 4]) sl41 ty64 ze64 (by decide) rfl rfl rfl rfl (by decide) (by decide) (fun _ => rfl) rfl) rfl ?_; iterate 1 (· first | assumption | rfl | omega | (simp; done) | (simp; omega) | (simp_all; done)))
    (refine Chain.gT [2, 1, 6, 3, 4, 12, 8, 7, 5, 0, 16, 13, 14, 9, 18, 17, 15, 11, 10, 22, 19, 20, 24, 23, 21, 25, 26] rfl rfl rfl rfl rfl ?_ (A_call rfl rfl rfl (LeL.refl _) (C_tactuslaw09_run _)) rfl ?_; iterate 1 (· first | assumption | rfl | omega | (simp; done) | (simp; omega) | (simp_all; done)))
    (refine Chain.gT [2, 1, 6, 3, 4, 12, 8, 7, 5, 0, 16, 13, 14, 9, 18, 17, 15, 11, 10, 19, 20, 21] rfl rfl rfl rfl rfl ?_ (A_buildSliceF (enc := intE) (l := [0]) sl29 ty3 ze3 (by decide) rfl rfl rfl rfl (by decide) (by decide) (fun _ => rfl) rfl) rfl ?_; iterate 1 (· first | assumption | rfl | omega | (simp; done) | (simp; omega) | (simp_all; done)))
    (refine Chain.gT [2, 1, 6, 3, 4, 12, 8, 7, 5, 0, 16, 13, 14, 9, 18, 17, 15, 11, 10, 19, 20, 21, 28] rfl rfl rfl rfl rfl ?_ (A_buildSliceF (enc := intsE) (l := [[0]]) sl43 ty29 ze29 (by decide) rfl rfl rfl rfl (by decide) (by decide) (fun _ => rfl) rfl) rfl ?_; iterate 1 (· first | assumption | rfl | omega | (simp; done) | (simp; omega) | (simp_all; done)))
    (refine Chain.gT [2, 1, 6, 3, 4, 12, 8, 7, 5, 0, 16, 13, 14, 9, 18, 17, 15, 11, 10, 19, 20, 21] rfl rfl rfl rfl rfl ?_ (A_buildSliceF (enc := intE) (l := [0]) sl29 ty3 ze3 (by decide) rfl rfl rfl rfl (by decide) (by decide) (fun _ => rfl) rfl) rfl ?_; iterate 1 (· first | assumption | rfl | omega | (simp; done) | (simp; omega) | (simp_all; done)))
    (refine Chain.gT [2, 1, 6, 3, 4, 12, 8, 7, 5, 0, 16, 13, 14, 9, 18, 17, 15, 11, 10, 24, 23, 19, 20, 28, 25, 26, 21, 30, 29, 27, 22] rfl rfl rfl rfl rfl ?_ (A_call rfl rfl rfl (LeL.refl _) (C_means_R mProl [sgCol, sgDot, sgNote 4] [[0]] [0] (by decide) (by decide) (by decide) (by decide))) rfl ?_; iterate 1 (· first | assumption | rfl | omega | (simp; done) | (simp; omega) | (simp_all; done)))
    (refine Chain.step [2, 1, 6, 3, 4, 12, 8, 7, 5, 0, 24, 23, 16, 13, 14, 9, 28, 25, 26, 18, 17, 15, 11, 10, 30, 29, 27, 22, 19, 20, 31, 21] rfl rfl rfl (Pur.stepA (P_pick_true rfl ?_ rfl)) rfl ?_; iterate 1 (· first | assumption | rfl | omega | (simp; done) | (simp; omega) | (simp_all; done)))
    refine Chain.step [30, 29, 28, 27, 26, 25, 24, 23, 22, 21, 20, 19, 18, 17, 16, 15, 14, 13, 12, 11, 10, 9, 8, 7, 6, 5, 4, 3, 2, 1, 0, 31, 32] rfl rfl rfl (Pur.stepA (P_assign rfl)) rfl ?_
    refine Chain.tail [] rfl rfl ?_
    refine Ex.nil ?_
    refine X.seq ?_
    refine X.region ?_
    refine Ex.call rfl rfl rfl C_tactuslaw09_modus rfl ?_
    refine Ex.call rfl rfl rfl (C_tactuslaw09_note _) rfl ?_
    refine Ex.call rfl rfl rfl C_tactuslaw09_point rfl ?_
    refine Ex.call rfl rfl rfl (C_tactuslaw09_note _) rfl ?_
    refine Ex.stepA (A_buildSliceF (enc := sgE) (l := [sgNote 3, sgDot, sgNote 3]) sl41 ty64 ze64 (by decide) rfl rfl rfl rfl (by decide) (by decide) (fun _ => rfl) rfl) rfl rfl ?_
    refine Ex.call rfl rfl rfl (C_tactuslaw09_run _) rfl ?_
    refine Ex.stepA (A_buildSliceF (enc := intE) (l := [2, 3]) sl29 ty3 ze3 (by decide) rfl rfl rfl rfl (by decide) (by decide) (fun _ => rfl) rfl) rfl rfl ?_
    refine Ex.stepA (A_buildSliceF (enc := intsE) (l := [[2, 3]]) sl43 ty29 ze29 (by decide) rfl rfl rfl rfl (by decide) (by decide) (fun _ => rfl) rfl) rfl rfl ?_
    refine Ex.stepA (A_buildSliceF (enc := intE) (l := [2]) sl29 ty3 ze3 (by decide) rfl rfl rfl rfl (by decide) (by decide) (fun _ => rfl) rfl) rfl rfl ?_
    refine Ex.call rfl rfl rfl (C_means_R mModus [sgNote 3, sgDot, sgNote 3] [[2, 3]] [2] (by decide) (by decide) (by decide) (by decide)) rfl ?_
    refine Ex.pur (P_move rfl) rfl ?_
    refine Ex.gstart (t := 95) true rfl ?_
    refine ExG.step rfl rfl rfl (fun hg => A_call rfl rfl rfl (LeL.refl _) C_tactuslaw09_modus) rfl ?_
    refine ExG.step rfl rfl rfl (fun hg => A_call rfl rfl rfl (LeL.refl _) (C_tactuslaw09_note _)) rfl ?_
    refine ExG.step rfl rfl rfl (fun hg => A_call rfl rfl rfl (LeL.refl _) C_tactuslaw09_point) rfl ?_
    refine ExG.step rfl rfl rfl (fun hg => A_call rfl rfl rfl (LeL.refl _) (C_tactuslaw09_note _)) rfl ?_
    refine ExG.step rfl rfl rfl (fun hg => A_buildSliceF (enc := sgE) (l := [sgNote 3, sgDot, sgNote 4]) sl41 ty64 ze64 (by decide) rfl rfl rfl rfl (by decide) (by decide) (fun _ => rfl) rfl) rfl ?_
    refine ExG.step rfl rfl rfl (fun hg => A_call rfl rfl rfl (LeL.refl _) (C_tactuslaw09_run _)) rfl ?_
    refine ExG.step rfl rfl rfl (fun hg => A_buildSliceF (enc := intE) (l := [2, 3]) sl29 ty3 ze3 (by decide) rfl rfl rfl rfl (by decide) (by decide) (fun _ => rfl) rfl) rfl ?_
    refine ExG.step rfl rfl rfl (fun hg => A_buildSliceF (enc := intsE) (l := [[2, 3]]) sl43 ty29 ze29 (by decide) rfl rfl rfl rfl (by decide) (by decide) (fun _ => rfl) rfl) rfl ?_
    refine ExG.step rfl rfl rfl (fun hg => A_buildSliceF (enc := intE) (l := [3]) sl29 ty3 ze3 (by decide) rfl rfl rfl rfl (by decide) (by decide) (fun _ => rfl) rfl) rfl ?_
    refine ExG.step rfl rfl rfl (fun hg => A_call rfl rfl rfl (LeL.refl _) (C_means_R mModus [sgNote 3, sgDot, sgNote 4] [[2, 3]] [3] (by decide) (by decide) (by decide) (by decide))) rfl ?_
    refine ExG.done ?_
    first
      | refine Ex.pur (P_and rfl rfl) rfl ?_
      | refine Ex.pur (P_or rfl rfl) rfl ?_
      | (refine Ex.pur (P_pick_true rfl ?_ rfl) rfl ?_; iterate 1 (· first | assumption | rfl | omega | (simp; done) | (simp; omega) | (simp_all; done)))
      | (refine Ex.pur (P_pick_false rfl ?_ rfl) rfl ?_; iterate 1 (· first | assumption | rfl | omega | (simp; done) | (simp; omega) | (simp_all; done)))
    refine Ex.pur (P_move rfl) rfl ?_
    refine Ex.gstart (t := 107) true rfl ?_
    refine ExG.step rfl rfl rfl (fun hg => A_call rfl rfl rfl (LeL.refl _) C_tactuslaw09_circle) rfl ?_
    refine ExG.step rfl rfl rfl (fun hg => A_call rfl rfl rfl (LeL.refl _) (C_tactuslaw09_rest _)) rfl ?_
    refine ExG.step rfl rfl rfl (fun hg => A_call rfl rfl rfl (LeL.refl _) C_tactuslaw09_point) rfl ?_
    refine ExG.step rfl rfl rfl (fun hg => A_buildSliceF (enc := sgE) (l := [sgRest 4, sgDot]) sl41 ty64 ze64 (by decide) rfl rfl rfl rfl (by decide) (by decide) (fun _ => rfl) rfl) rfl ?_
    refine ExG.step rfl rfl rfl (fun hg => A_call rfl rfl rfl (LeL.refl _) (C_tactuslaw09_run _)) rfl ?_
    refine ExG.step rfl rfl rfl (fun hg => A_buildSliceF (enc := intE) (l := [3]) sl29 ty3 ze3 (by decide) rfl rfl rfl rfl (by decide) (by decide) (fun _ => rfl) rfl) rfl ?_
    refine ExG.step rfl rfl rfl (fun hg => A_buildSliceF (enc := intsE) (l := [[3]]) sl43 ty29 ze29 (by decide) rfl rfl rfl rfl (by decide) (by decide) (fun _ => rfl) rfl) rfl ?_
    refine ExG.step rfl rfl rfl (fun hg => A_buildSliceF (enc := intE) (l := [3]) sl29 ty3 ze3 (by decide) rfl rfl rfl rfl (by decide) (by decide) (fun _ => rfl) rfl) rfl ?_
    refine ExG.step rfl rfl rfl (fun hg => A_call rfl rfl rfl (LeL.refl _) (C_means_R mCirc [sgRest 4, sgDot] [[3]] [3] (by decide) (by decide) (by decide) (by decide))) rfl ?_
    refine ExG.done ?_
    first
      | refine Ex.pur (P_and rfl rfl) rfl ?_
      | refine Ex.pur (P_or rfl rfl) rfl ?_
      | (refine Ex.pur (P_pick_true rfl ?_ rfl) rfl ?_; iterate 1 (· first | assumption | rfl | omega | (simp; done) | (simp; omega) | (simp_all; done)))
      | (refine Ex.pur (P_pick_false rfl ?_ rfl) rfl ?_; iterate 1 (· first | assumption | rfl | omega | (simp; done) | (simp; omega) | (simp_all; done)))
    refine Ex.pur (P_assign rfl) rfl ?_
    refine Ex.nil ?_
    refine X.seq ?_
    refine X.region ?_
    refine Ex.call rfl rfl rfl (C_tactuslaw09_note _) rfl ?_
    refine Ex.call rfl rfl rfl C_tactuslaw09_point rfl ?_
    refine Ex.call rfl rfl rfl (C_tactuslaw09_note _) rfl ?_
    refine Ex.call rfl rfl rfl C_tactuslaw09_point rfl ?_
    refine Ex.call rfl rfl rfl (C_tactuslaw09_note _) rfl ?_
    refine Ex.stepA (A_buildSliceF (enc := sgE) (l := exB) sl41 ty64 ze64 (by decide) rfl rfl rfl rfl (by decide) (by decide) (fun _ => rfl) rfl) rfl rfl ?_
    refine Ex.call rfl rfl rfl (C_tactuslaw09_run _) rfl ?_
    refine Ex.pur (P_assign rfl) rfl ?_
    refine Ex.nil ?_
    refine X.seq ?_
    refine X.region ?_
    refine Ex.call rfl rfl rfl C_tactuslaw09_circle rfl ?_
    refine Ex.pur (P_move rfl) rfl ?_
    refine Ex.call rfl rfl rfl hOf rfl ?_
    refine Ex.pur (P_move rfl) rfl ?_
    refine Ex.pur (P_extract rfl rfl) rfl ?_
    refine Ex.pur (P_extract rfl rfl) rfl ?_
    refine Ex.pur (P_assign rfl) rfl ?_
    refine Ex.pur (P_assign rfl) rfl ?_
    refine Ex.nil ?_
    refine X.seq ?_
    refine X.region ?_
    refine Ex.call rfl rfl rfl (C_tactuslaw09_note _) rfl ?_
    refine Ex.call rfl rfl rfl C_tactuslaw09_point rfl ?_
    refine Ex.call rfl rfl rfl (C_tactuslaw09_note _) rfl ?_
    refine Ex.stepA (A_buildSliceF (enc := sgE) (l := exS) sl41 ty64 ze64 (by decide) rfl rfl rfl rfl (by decide) (by decide) (fun _ => rfl) rfl) rfl rfl ?_
    refine Ex.call rfl rfl rfl (C_tactuslaw09_run _) rfl ?_
    refine Ex.pur (P_assign rfl) rfl ?_
    refine Ex.nil ?_
    refine X.seq ?_
    refine X.region ?_
    refine Ex.call rfl rfl rfl C_tactuslaw09_circle rfl ?_
    refine Ex.pur (P_move rfl) rfl ?_
    refine Ex.stepA (A_buildSliceF (enc := intE) (l := [3]) sl29 ty3 ze3 (by decide) rfl rfl rfl rfl (by decide) (by decide) (fun _ => rfl) rfl) rfl rfl ?_
    refine Ex.call rfl rfl rfl hMk1 rfl ?_
    refine Ex.pur (P_move rfl) rfl ?_
    refine Ex.pur (P_extract rfl rfl) rfl ?_
    refine Ex.pur (P_extract rfl rfl) rfl ?_
    refine Ex.pur (P_extract rfl rfl) rfl ?_
    refine Ex.pur (P_assign rfl) rfl ?_
    refine Ex.pur (P_assign rfl) rfl ?_
    refine Ex.pur (P_assign rfl) rfl ?_
    refine Ex.nil ?_
    refine X.seq ?_
    refine X.region ?_
    refine Ex.call rfl rfl rfl C_tactuslaw09_circle rfl ?_
    refine Ex.pur (P_move rfl) rfl ?_
    refine Ex.stepA (A_buildSliceF (enc := intE) (l := [4]) sl29 ty3 ze3 (by decide) rfl rfl rfl rfl (by decide) (by decide) (fun _ => rfl) rfl) rfl rfl ?_
    refine Ex.call rfl rfl rfl hMk2 rfl ?_
    refine Ex.pur (P_move rfl) rfl ?_
    refine Ex.pur (P_extract rfl rfl) rfl ?_
    refine Ex.pur (P_extract rfl rfl) rfl ?_
    refine Ex.pur (P_extract rfl rfl) rfl ?_
    refine Ex.pur (P_assign rfl) rfl ?_
    refine Ex.pur (P_assign rfl) rfl ?_
    refine Ex.pur (P_assign rfl) rfl ?_
    refine Ex.nil ?_
    refine X.seq ?_
    refine X.region ?_
    refine Ex.pur (P_move rfl) rfl ?_
    refine Ex.pur (P_eql rfl rfl) rfl ?_
    refine Ex.pur (P_move rfl) rfl ?_
    refine Ex.gstart (t := 154) true rfl ?_
    refine ExG.step rfl rfl rfl (fun hg => Pur.stepA (P_move rfl)) rfl ?_
    refine ExG.step rfl rfl rfl (fun hg => A_buildSliceF (enc := intE) (l := [0, 3]) sl29 ty3 ze3 (by decide) rfl rfl rfl rfl (by decide) (by decide) (fun _ => rfl) rfl) rfl ?_
    refine ExG.step rfl rfl rfl (fun hg => A_call rfl rfl rfl (LeL.refl _) (C_ints_eq [0, 3] (by decide))) rfl ?_
    refine ExG.done ?_
    first
      | refine Ex.pur (P_and rfl rfl) rfl ?_
      | refine Ex.pur (P_or rfl rfl) rfl ?_
      | (refine Ex.pur (P_pick_true rfl ?_ rfl) rfl ?_; iterate 1 (· first | assumption | rfl | omega | (simp; done) | (simp; omega) | (simp_all; done)))
      | (refine Ex.pur (P_pick_false rfl ?_ rfl) rfl ?_; iterate 1 (· first | assumption | rfl | omega | (simp; done) | (simp; omega) | (simp_all; done)))
    refine Ex.pur (P_move rfl) rfl ?_
    refine Ex.gstart (t := 159) true rfl ?_
    refine ExG.step rfl rfl rfl (fun hg => Pur.stepA (P_move rfl)) rfl ?_
    refine ExG.step rfl rfl rfl (fun hg => Pur.stepA (P_eql rfl rfl)) rfl ?_
    refine ExG.done ?_
    first
      | refine Ex.pur (P_and rfl rfl) rfl ?_
      | refine Ex.pur (P_or rfl rfl) rfl ?_
      | (refine Ex.pur (P_pick_true rfl ?_ rfl) rfl ?_; iterate 1 (· first | assumption | rfl | omega | (simp; done) | (simp; omega) | (simp_all; done)))
      | (refine Ex.pur (P_pick_false rfl ?_ rfl) rfl ?_; iterate 1 (· first | assumption | rfl | omega | (simp; done) | (simp; omega) | (simp_all; done)))
    refine Ex.pur (P_move rfl) rfl ?_
    refine Ex.gstart (t := 163) true rfl ?_
    refine ExG.step rfl rfl rfl (fun hg => Pur.stepA (P_move rfl)) rfl ?_
    refine ExG.step rfl rfl rfl (fun hg => A_buildSliceF (enc := intE) (l := [3, 0]) sl29 ty3 ze3 (by decide) rfl rfl rfl rfl (by decide) (by decide) (fun _ => rfl) rfl) rfl ?_
    refine ExG.step rfl rfl rfl (fun hg => A_call rfl rfl rfl (LeL.refl _) (C_ints_eq [3, 0] (by decide))) rfl ?_
    refine ExG.done ?_
    first
      | refine Ex.pur (P_and rfl rfl) rfl ?_
      | refine Ex.pur (P_or rfl rfl) rfl ?_
      | (refine Ex.pur (P_pick_true rfl ?_ rfl) rfl ?_; iterate 1 (· first | assumption | rfl | omega | (simp; done) | (simp; omega) | (simp_all; done)))
      | (refine Ex.pur (P_pick_false rfl ?_ rfl) rfl ?_; iterate 1 (· first | assumption | rfl | omega | (simp; done) | (simp; omega) | (simp_all; done)))
    refine Ex.pur (P_move rfl) rfl ?_
    refine Ex.gstart (t := 168) true rfl ?_
    refine ExG.step rfl rfl rfl (fun hg => Pur.stepA (P_move rfl)) rfl ?_
    refine ExG.step rfl rfl rfl (fun hg => A_buildSliceF (enc := boolE) (l := [false, false]) sl56 ty4 ze4 (by decide) rfl rfl rfl rfl (by decide) (by decide) (fun _ => rfl) rfl) rfl ?_
    refine ExG.step rfl rfl rfl (fun hg => A_call rfl rfl rfl (LeL.refl _) (C_bools_eq [false, false] (by decide))) rfl ?_
    refine ExG.done ?_
    first
      | refine Ex.pur (P_and rfl rfl) rfl ?_
      | refine Ex.pur (P_or rfl rfl) rfl ?_
      | (refine Ex.pur (P_pick_true rfl ?_ rfl) rfl ?_; iterate 1 (· first | assumption | rfl | omega | (simp; done) | (simp; omega) | (simp_all; done)))
      | (refine Ex.pur (P_pick_false rfl ?_ rfl) rfl ?_; iterate 1 (· first | assumption | rfl | omega | (simp; done) | (simp; omega) | (simp_all; done)))
    refine Ex.pur (P_move rfl) rfl ?_
    refine Ex.gstart (t := 173) true rfl ?_
    refine ExG.step rfl rfl rfl (fun hg => Pur.stepA (P_move rfl)) rfl ?_
    refine ExG.step rfl rfl rfl (fun hg => Pur.stepA (P_eql rfl rfl)) rfl ?_
    refine ExG.done ?_
    first
      | refine Ex.pur (P_and rfl rfl) rfl ?_
      | refine Ex.pur (P_or rfl rfl) rfl ?_
      | (refine Ex.pur (P_pick_true rfl ?_ rfl) rfl ?_; iterate 1 (· first | assumption | rfl | omega | (simp; done) | (simp; omega) | (simp_all; done)))
      | (refine Ex.pur (P_pick_false rfl ?_ rfl) rfl ?_; iterate 1 (· first | assumption | rfl | omega | (simp; done) | (simp; omega) | (simp_all; done)))
    refine Ex.pur (P_assign rfl) rfl ?_
    refine Ex.nil ?_
    refine X.seq ?_
    refine X.region ?_
    refine Ex.call rfl rfl rfl C_tactuslaw09_circle rfl ?_
    refine Ex.call rfl rfl rfl (C_tactuslaw09_rest _) rfl ?_
    refine Ex.call rfl rfl rfl C_tactuslaw09_point rfl ?_
    refine Ex.stepA (A_buildSliceF (enc := sgE) (l := [sgRest 3, sgDot]) sl41 ty64 ze64 (by decide) rfl rfl rfl rfl (by decide) (by decide) (fun _ => rfl) rfl) rfl rfl ?_
    refine Ex.call rfl rfl rfl (C_tactuslaw09_run _) rfl ?_
    refine Ex.call rfl rfl rfl (C_check_R mCirc [sgRest 3, sgDot] 13 (by decide) (by decide)) rfl ?_
    refine Ex.pur (P_eql rfl rfl) rfl ?_
    refine Ex.pur (P_move rfl) rfl ?_
    refine Ex.gstart (t := 184) true rfl ?_
    refine ExG.step rfl rfl rfl (fun hg => A_call rfl rfl rfl (LeL.refl _) C_tactuslaw09_circle) rfl ?_
    refine ExG.step rfl rfl rfl (fun hg => A_call rfl rfl rfl (LeL.refl _) C_tactuslaw09_point) rfl ?_
    refine ExG.step rfl rfl rfl (fun hg => A_call rfl rfl rfl (LeL.refl _) (C_tactuslaw09_note _)) rfl ?_
    refine ExG.step rfl rfl rfl (fun hg => A_buildSliceF (enc := sgE) (l := [sgDot, sgNote 4]) sl41 ty64 ze64 (by decide) rfl rfl rfl rfl (by decide) (by decide) (fun _ => rfl) rfl) rfl ?_
    refine ExG.step rfl rfl rfl (fun hg => A_call rfl rfl rfl (LeL.refl _) (C_tactuslaw09_run _)) rfl ?_
    refine ExG.step rfl rfl rfl (fun hg => A_call rfl rfl rfl (LeL.refl _) (C_check_R mCirc [sgDot, sgNote 4] 13 (by decide) (by decide))) rfl ?_
    refine ExG.step rfl rfl rfl (fun hg => Pur.stepA (P_eql rfl rfl)) rfl ?_
    refine ExG.done ?_
    first
      | refine Ex.pur (P_and rfl rfl) rfl ?_
      | refine Ex.pur (P_or rfl rfl) rfl ?_
      | (refine Ex.pur (P_pick_true rfl ?_ rfl) rfl ?_; iterate 1 (· first | assumption | rfl | omega | (simp; done) | (simp; omega) | (simp_all; done)))
      | (refine Ex.pur (P_pick_false rfl ?_ rfl) rfl ?_; iterate 1 (· first | assumption | rfl | omega | (simp; done) | (simp; omega) | (simp_all; done)))
    refine Ex.pur (P_move rfl) rfl ?_
    refine Ex.gstart (t := 193) true rfl ?_
    refine ExG.step rfl rfl rfl (fun hg => A_call rfl rfl rfl (LeL.refl _) C_tactuslaw09_circle) rfl ?_
    refine ExG.step rfl rfl rfl (fun hg => A_call rfl rfl rfl (LeL.refl _) (C_tactuslaw09_note _)) rfl ?_
    refine ExG.step rfl rfl rfl (fun hg => A_call rfl rfl rfl (LeL.refl _) C_tactuslaw09_point) rfl ?_
    refine ExG.step rfl rfl rfl (fun hg => A_call rfl rfl rfl (LeL.refl _) C_tactuslaw09_point) rfl ?_
    refine ExG.step rfl rfl rfl (fun hg => A_buildSliceF (enc := sgE) (l := [sgNote 4, sgDot, sgDot]) sl41 ty64 ze64 (by decide) rfl rfl rfl rfl (by decide) (by decide) (fun _ => rfl) rfl) rfl ?_
    refine ExG.step rfl rfl rfl (fun hg => A_call rfl rfl rfl (LeL.refl _) (C_tactuslaw09_run _)) rfl ?_
    refine ExG.step rfl rfl rfl (fun hg => A_call rfl rfl rfl (LeL.refl _) (C_check_R mCirc [sgNote 4, sgDot, sgDot] 13 (by decide) (by decide))) rfl ?_
    refine ExG.step rfl rfl rfl (fun hg => Pur.stepA (P_eql rfl rfl)) rfl ?_
    refine ExG.done ?_
    first
      | refine Ex.pur (P_and rfl rfl) rfl ?_
      | refine Ex.pur (P_or rfl rfl) rfl ?_
      | (refine Ex.pur (P_pick_true rfl ?_ rfl) rfl ?_; iterate 1 (· first | assumption | rfl | omega | (simp; done) | (simp; omega) | (simp_all; done)))
      | (refine Ex.pur (P_pick_false rfl ?_ rfl) rfl ?_; iterate 1 (· first | assumption | rfl | omega | (simp; done) | (simp; omega) | (simp_all; done)))
    refine Ex.pur (P_move rfl) rfl ?_
    refine Ex.gstart (t := 203) true rfl ?_
    refine ExG.step rfl rfl rfl (fun hg => A_call rfl rfl rfl (LeL.refl _) C_tactuslaw09_half) rfl ?_
    refine ExG.step rfl rfl rfl (fun hg => A_call rfl rfl rfl (LeL.refl _) (C_tactuslaw09_rest _)) rfl ?_
    refine ExG.step rfl rfl rfl (fun hg => A_call rfl rfl rfl (LeL.refl _) C_tactuslaw09_point) rfl ?_
    refine ExG.step rfl rfl rfl (fun hg => A_buildSliceF (enc := sgE) (l := [sgRest 4, sgDot]) sl41 ty64 ze64 (by decide) rfl rfl rfl rfl (by decide) (by decide) (fun _ => rfl) rfl) rfl ?_
    refine ExG.step rfl rfl rfl (fun hg => A_call rfl rfl rfl (LeL.refl _) (C_tactuslaw09_run _)) rfl ?_
    refine ExG.step rfl rfl rfl (fun hg => A_call rfl rfl rfl (LeL.refl _) (C_check_R mHalf [sgRest 4, sgDot] 13 (by decide) (by decide))) rfl ?_
    refine ExG.step rfl rfl rfl (fun hg => Pur.stepA (P_eql rfl rfl)) rfl ?_
    refine ExG.done ?_
    first
      | refine Ex.pur (P_and rfl rfl) rfl ?_
      | refine Ex.pur (P_or rfl rfl) rfl ?_
      | (refine Ex.pur (P_pick_true rfl ?_ rfl) rfl ?_; iterate 1 (· first | assumption | rfl | omega | (simp; done) | (simp; omega) | (simp_all; done)))
      | (refine Ex.pur (P_pick_false rfl ?_ rfl) rfl ?_; iterate 1 (· first | assumption | rfl | omega | (simp; done) | (simp; omega) | (simp_all; done)))
    refine Ex.pur (P_assign rfl) rfl ?_
    refine Ex.nil ?_
    refine X.seq ?_
    refine X.region ?_
    refine Ex.call rfl rfl rfl C_tactuslaw09_awake rfl ?_
    refine Ex.pur (P_move rfl) rfl ?_
    refine Ex.gstart (t := 213) true rfl ?_
    refine ExG.step rfl rfl rfl (fun hg => Pur.stepA (P_move rfl)) rfl ?_
    refine ExG.done ?_
    first
      | refine Ex.pur (P_and rfl rfl) rfl ?_
      | refine Ex.pur (P_or rfl rfl) rfl ?_
      | (refine Ex.pur (P_pick_true rfl ?_ rfl) rfl ?_; iterate 1 (· first | assumption | rfl | omega | (simp; done) | (simp; omega) | (simp_all; done)))
      | (refine Ex.pur (P_pick_false rfl ?_ rfl) rfl ?_; iterate 1 (· first | assumption | rfl | omega | (simp; done) | (simp; omega) | (simp_all; done)))
    refine Ex.pur (P_move rfl) rfl ?_
    refine Ex.gstart (t := 216) true rfl ?_
    refine ExG.step rfl rfl rfl (fun hg => Pur.stepA (P_move rfl)) rfl ?_
    refine ExG.done ?_
    first
      | refine Ex.pur (P_and rfl rfl) rfl ?_
      | refine Ex.pur (P_or rfl rfl) rfl ?_
      | (refine Ex.pur (P_pick_true rfl ?_ rfl) rfl ?_; iterate 1 (· first | assumption | rfl | omega | (simp; done) | (simp; omega) | (simp_all; done)))
      | (refine Ex.pur (P_pick_false rfl ?_ rfl) rfl ?_; iterate 1 (· first | assumption | rfl | omega | (simp; done) | (simp; omega) | (simp_all; done)))
    refine Ex.pur (P_move rfl) rfl ?_
    refine Ex.gstart (t := 219) true rfl ?_
    refine ExG.step rfl rfl rfl (fun hg => Pur.stepA (P_move rfl)) rfl ?_
    refine ExG.done ?_
    first
      | refine Ex.pur (P_and rfl rfl) rfl ?_
      | refine Ex.pur (P_or rfl rfl) rfl ?_
      | (refine Ex.pur (P_pick_true rfl ?_ rfl) rfl ?_; iterate 1 (· first | assumption | rfl | omega | (simp; done) | (simp; omega) | (simp_all; done)))
      | (refine Ex.pur (P_pick_false rfl ?_ rfl) rfl ?_; iterate 1 (· first | assumption | rfl | omega | (simp; done) | (simp; omega) | (simp_all; done)))
    refine Ex.pur (P_move rfl) rfl ?_
    refine Ex.gstart (t := 222) true rfl ?_
    refine ExG.step rfl rfl rfl (fun hg => Pur.stepA (P_move rfl)) rfl ?_
    refine ExG.done ?_
    first
      | refine Ex.pur (P_and rfl rfl) rfl ?_
      | refine Ex.pur (P_or rfl rfl) rfl ?_
      | (refine Ex.pur (P_pick_true rfl ?_ rfl) rfl ?_; iterate 1 (· first | assumption | rfl | omega | (simp; done) | (simp; omega) | (simp_all; done)))
      | (refine Ex.pur (P_pick_false rfl ?_ rfl) rfl ?_; iterate 1 (· first | assumption | rfl | omega | (simp; done) | (simp; omega) | (simp_all; done)))
    refine Ex.pur (P_move rfl) rfl ?_
    refine Ex.gstart (t := 225) true rfl ?_
    refine ExG.step rfl rfl rfl (fun hg => Pur.stepA (P_move rfl)) rfl ?_
    refine ExG.done ?_
    first
      | refine Ex.pur (P_and rfl rfl) rfl ?_
      | refine Ex.pur (P_or rfl rfl) rfl ?_
      | (refine Ex.pur (P_pick_true rfl ?_ rfl) rfl ?_; iterate 1 (· first | assumption | rfl | omega | (simp; done) | (simp; omega) | (simp_all; done)))
      | (refine Ex.pur (P_pick_false rfl ?_ rfl) rfl ?_; iterate 1 (· first | assumption | rfl | omega | (simp; done) | (simp; omega) | (simp_all; done)))
    refine Ex.pur (P_assign rfl) rfl ?_
    refine Ex.nil ?_
    refine X.ret ?_
    refine RetQ.ret (.one (.tmp rfl (LeV.eq ?_)))
    all_goals (first | rfl | simp)
end Go.Rse
