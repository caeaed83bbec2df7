/-
  Walks: the chapter's examples on color.
-/
import Derived.Test.YteecbmgddacioaaLaw11a
namespace Go.Rse
open Go Go.Proofs
set_option linter.unusedVariables false
set_option linter.unusedSimpArgs false
attribute [local irreducible] Pur StepA StepM Ex X ExG Fn Imp LeV LeB FnO It YStep
section
attribute [local semireducible] Fn
theorem Fn.le {P : Program} {f : FuncId} {xs ys : List AV} {r : AV} (h : Fn P f xs r) (hl : LeL ys xs) : Fn P f ys r := ⟨h.1, h.2.1, fun g w args him hr => h.2.2 g w args him (hl.rvl hr)⟩
end
theorem C_pairs_N {m : Mn} {l : List Sg} (hl : l.length ≤ 1000) (h : ckR m l = 0) (h2 : pairL m l = []) : Fn Try.prog 79 [mnA m, .nils, sgsA l] (.bool true) :=
  (C_pairs_T (p := []) hl h h2).le (.cons (LeV.refl _) (.cons (LeV.nils _) (LeL.refl _)))
def exK : List Sg := [sgBlk 4, sgBlk 5, sgNote 4, sgDot, sgBlk 4, sgBlk 5, sgRest 5]
theorem exK_ck : ckR mHalf exK = 0 := by decide
theorem exK_pl : pairL mHalf exK = [0, 4] := by decide +kernel
theorem exK_pr : prL mHalf exK = [0, 4] := (pr_R exK_ck exK_pl).2
theorem exK_cd : ckD mHalf exK = 0 := (pr_R exK_ck exK_pl).1
theorem exK_N : colN mHalf exK = 4 := by unfold colN; rw [if_pos exK_cd, exK_pr]; decide
theorem exK_E : colE mHalf exK = 0 := by unfold colE; rw [if_pos exK_cd, exK_pr]; decide
theorem exK_1 : ofV mHalf exK 1 = [1, 2] ∧ ofE mHalf exK 1 = 0 := by
  unfold ofV ofE; rw [exK_E, exK_N, exK_pr]; decide
theorem exK_4 : ofV mHalf exK 4 = [] ∧ ofE mHalf exK 4 = 2 := by
  unfold ofV ofE; rw [exK_E, exK_N, exK_pr]; decide
theorem exK_r : twos (prL mHalf exK).length = [2, 2] := by rw [exK_pr]; decide
def kT : List Tm := [⟨2, 1⟩, ⟨4, 3⟩, ⟨2, 3⟩, ⟨2, 1⟩]
def kB : List Tm := [⟨4, 1⟩, ⟨4, 1⟩, ⟨4, 1⟩]
theorem kD1 : duE mHalf lineL [1] = 0 ∧ duV mHalf lineL [1] = kT := du_R (p := [1]) (by decide) (by decide +kernel) (by decide) (by decide) (by decide +kernel)
theorem kD2 : duE mCirc [sgBlk 3, sgBlk 3, sgBlk 3] [] = 0 ∧ duV mCirc [sgBlk 3, sgBlk 3, sgBlk 3] [] = kB := du_R (p := []) (by decide) (by decide +kernel) (by decide) (by decide) (by decide +kernel)
theorem kD3 : duE mHalf [sgNote 4] [1] = 2 ∧ duV mHalf [sgNote 4] [1] = [] := by
  obtain ⟨a, b⟩ := pr_R (m := mHalf) (l := [sgNote 4]) (p := []) (by decide) (by decide +kernel)
  have h : 2 = duE mHalf [sgNote 4] [1] := duE_1 a (by rw [b]; decide)
  exact ⟨h.symm, (duV_n h (by decide)).symm⟩
theorem kC : ckD mHalf [sgDot, sgNote 4] = 13 := by rw [ckD_R]; decide
theorem C_tactuslaw11_point  : Fn Try.prog 76 [] (mnA mProl) := by
  refine Fn.go Try.func76 Try.ntmps76 (fun g w d => ?_)
  refine X.seq ?_
  refine X.region ?_
  refine Ex.al ?_
  refine Ex.nil ?_
  refine X.seq ?_
  refine X.region ?_
  refine Ex.pu ?_
  refine Ex.mo ?_
  refine Ex.nil ?_
  refine X.ret ?_
  refine RetQ.ret (.one (.cellA rfl rfl rfl rfl ty23 (LeV.eq ?_)))
  all_goals (first | rfl | (simp_all; done))
theorem C_tactuslaw11_rest (v : Int) : Fn Try.prog 81 [iv v] (sgA (sgRest v)) := by
  refine Fn.go Try.func81 Try.ntmps81 (fun g w d => ?_)
  refine X.seq ?_
  refine X.region ?_
  refine Ex.al ?_
  refine Ex.nil ?_
  refine X.seq ?_
  refine X.region ?_
  iterate 2 refine Ex.pu ?_
  refine Ex.mo ?_
  refine Ex.nil ?_
  refine X.ret ?_
  refine RetQ.ret (.one (.cellA rfl rfl rfl rfl ty64 (LeV.eq ?_)))
  all_goals (first | rfl | (simp_all; done))
theorem C_tactuslaw11_dot  : Fn Try.prog 80 [] (sgA sgDot) := by
  refine Fn.go Try.func80 Try.ntmps80 (fun g w d => ?_)
  refine X.seq ?_
  refine X.region ?_
  refine Ex.al ?_
  refine Ex.nil ?_
  refine X.seq ?_
  refine X.region ?_
  refine Ex.pu ?_
  refine Ex.mo ?_
  refine Ex.nil ?_
  refine X.ret ?_
  refine RetQ.ret (.one (.cellA rfl rfl rfl rfl ty64 (LeV.eq ?_)))
  all_goals (first | rfl | (simp_all; done))
set_option maxHeartbeats 8000000 in
set_option maxRecDepth 100000 in
theorem C_tactuslaw11_ColorKnown  : Fn Try.prog 15 [] (.bool true) := by
  have hC := C_color_Count mHalf exK (by decide)
  rw [exK_N, exK_E] at hC
  have hR := C_color_Rule mHalf exK (by decide)
  rw [exK_r, exK_cd] at hR
  have hO1 := C_color_Of mHalf exK 1 (by decide)
  rw [exK_1.1, exK_1.2] at hO1
  have hO4 := C_color_Of mHalf exK 4 (by decide)
  rw [exK_4.1, exK_4.2] at hO4
  have hD1 := C_color_Durs mHalf lineL [1] (by decide) (by decide)
  rw [kD1.1, kD1.2] at hD1
  have hD2 := (C_color_Durs mCirc [sgBlk 3, sgBlk 3, sgBlk 3] [] (by decide) (by decide)).le (ys := [mnA mCirc, sgsA [sgBlk 3, sgBlk 3, sgBlk 3], .nils]) (.cons (LeV.refl _) (.cons (LeV.refl _) (.cons (LeV.nils _) .nil)))
  rw [kD2.1, kD2.2] at hD2
  have hD3 := C_color_Durs mHalf [sgNote 4] [1] (by decide) (by decide)
  rw [kD3.1, kD3.2] at hD3
  have hd9 := C_color_Dur mCirc 9
  rw [show ckMV mCirc 9 = 2 by decide, if_neg (by decide)] at hd9
  have hP := C_color_Pairs' mHalf [sgDot, sgNote 4] (by decide)
  rw [kC] at hP
  refine Fn.go Try.func15 Try.ntmps15 (fun g w d => ?_)
  refine X.seq ?_
  refine X.region ?_
  refine Ex.pu ?_
  refine Ex.nil ?_
  refine X.seq ?_
  refine X.seq ?_
  refine X.region ?_
  refine Ex.ca C_tactuslaw11_circle ?_
  refine Ex.ca (C_lasts_T (m := mCirc) (v := 4) (n := 2) (d := 1) (by decide) (by decide +kernel)) ?_
  refine Ex.pu ?_
  refine ExF.at 3 ?_
  refine ExF.pu ?_
  refine ExF.cg C_tactuslaw11_circle ?_
  refine ExF.cg (C_lasts_T (m := mCirc) (v := 2) (n := 8) (d := 1) (by decide) (by decide +kernel)) ?_
  refine ExF.gi ?_
  iterate 2 refine ExF.pu ?_
  refine ExF.cg C_tactuslaw11_point ?_
  refine ExF.cg (C_lasts_T (m := mProl) (v := 4) (n := 2) (d := 1) (by decide) (by decide +kernel)) ?_
  refine ExF.gi ?_
  iterate 2 refine ExF.pu ?_
  refine ExF.cg C_tactuslaw11_point ?_
  refine ExF.cg (C_lasts_T (m := mProl) (v := 3) (n := 4) (d := 1) (by decide) (by decide +kernel)) ?_
  refine ExF.gi ?_
  iterate 2 refine ExF.pu ?_
  refine ExF.cg C_tactuslaw11_both ?_
  refine ExF.cg (C_lasts_T (m := mBoth) (v := 4) (n := 2) (d := 1) (by decide) (by decide +kernel)) ?_
  refine ExF.gi ?_
  iterate 2 refine ExF.pu ?_
  refine ExF.cg C_tactuslaw11_both ?_
  refine ExF.cg (C_lasts_T (m := mBoth) (v := 2) (n := 12) (d := 1) (by decide) (by decide +kernel)) ?_
  refine ExF.gi ?_
  iterate 2 refine ExF.pu ?_
  refine ExF.cg C_tactuslaw11_half ?_
  refine ExF.cg (C_lasts_T (m := mHalf) (v := 3) (n := 8) (d := 3) (by decide) (by decide +kernel)) ?_
  refine ExF.gi ?_
  iterate 2 refine ExF.pu ?_
  refine ExF.cg C_tactuslaw11_half ?_
  refine ExF.cg (C_lasts_T (m := mHalf) (v := 5) (n := 2) (d := 3) (by decide) (by decide +kernel)) ?_
  refine ExF.gi ?_
  refine ExF.done ?_
  refine Ex.pu ?_
  refine Ex.nil ?_
  refine X.cd rfl (fun hc1 => ?_) (fun hc1 => ?_)
  · simp at hc1
  refine X.skip ?_
  refine X.seq ?_
  refine X.region ?_
  refine Ex.ca (C_tactuslaw11_black _) ?_
  refine Ex.ca (C_tactuslaw11_black _) ?_
  refine Ex.al ?_
  refine Ex.al ?_
  iterate 2 refine Ex.mo ?_
  refine Ex.nil ?_
  refine X.seq ?_
  refine X.seq ?_
  refine X.dw [57,58,59,60,61,62,63,64,65,66,67,68,69,70,71,72,73,74,75,76,77,78,79,80,81,82,83,84,85,86,87,88,89,90] [0,0,0,0,14,31,63,127,255,255,255,511,4095,8191,16383,32767,65535,131071,131071,131071,917503,2097151,4194303,8388607,16777215,33554431,33554431,67108863,33554431,33554431,1006632959,2147483647,4294967295,8589934591] mo ?_
  refine ChM.ca C_tactuslaw11_half ?_
  iterate 3 refine ChM.pu ?_
  refine ChM.step rfl rfl rfl (A_buildSliceF (enc := sgE) (l := [sgBlk 4, sgBlk 5, sgBlk 5]) sl41 ty64 ze64 (by decide) rfl rfl rfl rfl (by decide) (by decide) (fun _ => rfl) rfl) rfl ?_
  refine ChM.ca (C_pairs_N (m := mHalf) (l := [sgBlk 4, sgBlk 5, sgBlk 5]) (by decide) (by decide) (by decide +kernel)) ?_
  iterate 2 refine ChM.pu ?_
  refine ChM.cg C_tactuslaw11_half ?_
  iterate 2 refine ChM.gi ?_
  refine ChM.cg C_tactuslaw11_dot ?_
  refine ChM.gs (A_buildSliceF (enc := sgE) (l := [sgBlk 4, sgBlk 5, sgDot]) sl41 ty64 ze64 (by decide) rfl rfl rfl rfl (by decide) (by decide) (fun _ => rfl) rfl) ?_
  refine ChM.cg (C_pairs_N (m := mHalf) (l := [sgBlk 4, sgBlk 5, sgDot]) (by decide) (by decide) (by decide +kernel)) ?_
  refine ChM.gi ?_
  iterate 2 refine ChM.pu ?_
  refine ChM.cg C_tactuslaw11_point ?_
  iterate 2 refine ChM.gi ?_
  refine ChM.gs (A_buildSliceF (enc := sgE) (l := [sgBlk 4, sgBlk 5]) sl41 ty64 ze64 (by decide) rfl rfl rfl rfl (by decide) (by decide) (fun _ => rfl) rfl) ?_
  refine ChM.cg (C_pairs_N (m := mProl) (l := [sgBlk 4, sgBlk 5]) (by decide) (by decide) (by decide +kernel)) ?_
  refine ChM.gi ?_
  iterate 2 refine ChM.pu ?_
  refine ChM.cg C_tactuslaw11_circle ?_
  refine ChM.gs (A_buildSliceF (enc := intE) (l := [1]) sl29 ty3 ze3 (by decide) rfl rfl rfl rfl (by decide) (by decide) (fun _ => rfl) rfl) ?_
  refine ChM.cg (C_tactuslaw11_rest _) ?_
  iterate 2 refine ChM.gi ?_
  refine ChM.gs (A_buildSliceF (enc := sgE) (l := [sgRest 4, sgBlk 4, sgBlk 5]) sl41 ty64 ze64 (by decide) rfl rfl rfl rfl (by decide) (by decide) (fun _ => rfl) rfl) ?_
  refine ChM.cg (C_pairs_T (m := mCirc) (l := [sgRest 4, sgBlk 4, sgBlk 5]) (p := [1]) (by decide) (by decide) (by decide +kernel)) ?_
  refine ChM.gi ?_
  refine ChM.pu ?_
  refine ChM.tl ?_
  refine Ex.nil ?_
  refine X.cd rfl (fun hc2 => ?_) (fun hc2 => ?_)
  · simp at hc2
  refine X.skip ?_
  refine X.seq ?_
  refine X.dw [3,91,92,93,94,95,96,97,98] [0,0,0,4,0,0,12,127,255] mo ?_
  iterate 2 refine ChM.pu ?_
  refine ChM.ca (C_tactuslaw11_note _) ?_
  refine ChM.ca C_tactuslaw11_dot ?_
  iterate 2 refine ChM.pu ?_
  refine ChM.ca (C_tactuslaw11_rest _) ?_
  refine ChM.step rfl rfl rfl (A_buildSliceF (enc := sgE) (l := exK) sl41 ty64 ze64 (by decide) rfl rfl rfl rfl (by decide) (by decide) (fun _ => rfl) rfl) rfl ?_
  refine ChM.pu ?_
  refine ChM.tl ?_
  refine Ex.nil ?_
  refine X.seq ?_
  refine X.region ?_
  refine Ex.ca C_tactuslaw11_half ?_
  refine Ex.pu ?_
  refine Ex.ca hC ?_
  iterate 5 refine Ex.pu ?_
  refine Ex.nil ?_
  refine X.seq ?_
  refine X.region ?_
  refine Ex.ca C_tactuslaw11_half ?_
  refine Ex.pu ?_
  refine Ex.ca hR ?_
  iterate 5 refine Ex.pu ?_
  refine Ex.nil ?_
  refine X.seq ?_
  refine X.region ?_
  refine Ex.ca C_tactuslaw11_half ?_
  refine Ex.pu ?_
  refine Ex.ca hO1 ?_
  iterate 5 refine Ex.pu ?_
  refine Ex.nil ?_
  refine X.seq ?_
  refine X.region ?_
  refine Ex.ca C_tactuslaw11_half ?_
  refine Ex.pu ?_
  refine Ex.ca hO4 ?_
  iterate 5 refine Ex.pu ?_
  refine Ex.nil ?_
  refine X.seq ?_
  refine X.seq ?_
  refine X.region ?_
  refine Ex.ca C_tactuslaw11_half ?_
  refine Ex.stepA (A_buildSliceF (enc := intE) (l := [0, 4]) sl29 ty3 ze3 (by decide) rfl rfl rfl rfl (by decide) (by decide) (fun _ => rfl) rfl) rfl rfl ?_
  refine Ex.pu ?_
  refine Ex.ca (C_pairs_T (m := mHalf) (l := exK) (p := [0, 4]) (by decide) exK_ck exK_pl) ?_
  refine Ex.pu ?_
  refine ExF.at 5 ?_
  refine ExF.pu ?_
  iterate 2 refine ExF.gi ?_
  iterate 2 refine ExF.pu ?_
  iterate 2 refine ExF.gi ?_
  iterate 2 refine ExF.pu ?_
  iterate 2 refine ExF.gi ?_
  iterate 2 refine ExF.pu ?_
  iterate 2 refine ExF.gi ?_
  iterate 2 refine ExF.pu ?_
  iterate 2 refine ExF.gi ?_
  iterate 2 refine ExF.pu ?_
  refine ExF.gi ?_
  refine ExF.gs (A_buildSliceF (enc := intE) (l := [2, 2]) sl29 ty3 ze3 (by decide) rfl rfl rfl rfl (by decide) (by decide) (fun _ => rfl) rfl) ?_
  refine ExF.cg (C_ints_eq [2, 2] (by decide)) ?_
  refine ExF.gi ?_
  iterate 2 refine ExF.pu ?_
  refine ExF.gi ?_
  refine ExF.gs (A_buildSliceF (enc := intE) (l := [1, 2]) sl29 ty3 ze3 (by decide) rfl rfl rfl rfl (by decide) (by decide) (fun _ => rfl) rfl) ?_
  refine ExF.cg (C_ints_eq [1, 2] (by decide)) ?_
  refine ExF.gi ?_
  refine ExF.done ?_
  refine Ex.pu ?_
  refine Ex.nil ?_
  refine X.cd rfl (fun hc3 => ?_) (fun hc3 => ?_)
  · simp at hc3
  refine X.skip ?_
  refine X.seq ?_
  refine X.region ?_
  refine Ex.ca C_tactuslaw11_half ?_
  refine Ex.ca C_tactuslaw11_line ?_
  refine Ex.stepA (A_buildSliceF (enc := intE) (l := [1]) sl29 ty3 ze3 (by decide) rfl rfl rfl rfl (by decide) (by decide) (fun _ => rfl) rfl) rfl rfl ?_
  refine Ex.ca hD1 ?_
  iterate 5 refine Ex.pu ?_
  refine Ex.nil ?_
  refine X.seq ?_
  refine X.region ?_
  refine Ex.ca C_tactuslaw11_circle ?_
  refine Ex.ca (C_tactuslaw11_black _) ?_
  refine Ex.ca (C_tactuslaw11_black _) ?_
  refine Ex.ca (C_tactuslaw11_black _) ?_
  refine Ex.stepA (A_buildSliceF (enc := sgE) (l := [sgBlk 3, sgBlk 3, sgBlk 3]) sl41 ty64 ze64 (by decide) rfl rfl rfl rfl (by decide) (by decide) (fun _ => rfl) rfl) rfl rfl ?_
  refine Ex.ca hD2 ?_
  iterate 5 refine Ex.pu ?_
  refine Ex.nil ?_
  refine X.seq ?_
  refine X.region ?_
  refine Ex.ca C_tactuslaw11_half ?_
  refine Ex.ca (C_tactuslaw11_note _) ?_
  refine Ex.stepA (A_buildSliceF (enc := sgE) (l := [sgNote 4]) sl41 ty64 ze64 (by decide) rfl rfl rfl rfl (by decide) (by decide) (fun _ => rfl) rfl) rfl rfl ?_
  refine Ex.stepA (A_buildSliceF (enc := intE) (l := [1]) sl29 ty3 ze3 (by decide) rfl rfl rfl rfl (by decide) (by decide) (fun _ => rfl) rfl) rfl rfl ?_
  refine Ex.ca hD3 ?_
  iterate 4 refine Ex.pu ?_
  refine Ex.nil ?_
  refine X.seq ?_
  refine X.region ?_
  refine Ex.ca C_tactuslaw11_circle ?_
  refine Ex.ca hd9 ?_
  iterate 4 refine Ex.pu ?_
  refine Ex.nil ?_
  refine X.seq ?_
  refine X.region ?_
  refine Ex.ca C_tactuslaw11_half ?_
  refine Ex.ca C_tactuslaw11_dot ?_
  refine Ex.ca (C_tactuslaw11_note _) ?_
  refine Ex.stepA (A_buildSliceF (enc := sgE) (l := [sgDot, sgNote 4]) sl41 ty64 ze64 (by decide) rfl rfl rfl rfl (by decide) (by decide) (fun _ => rfl) rfl) rfl rfl ?_
  refine Ex.co [(39, 39)] hP ?_
  iterate 5 refine Ex.pu ?_
  refine Ex.nil ?_
  refine X.seq ?_
  refine X.region ?_
  refine Ex.pu ?_
  refine Ex.al ?_
  refine Ex.mo ?_
  refine Ex.nil ?_
  refine X.seq ?_
  refine X.region ?_
  iterate 2 refine Ex.pu ?_
  refine ExF.at 2 ?_
  refine ExF.pu ?_
  iterate 2 refine ExF.gi ?_
  iterate 2 refine ExF.pu ?_
  iterate 2 refine ExF.gi ?_
  iterate 2 refine ExF.pu ?_
  iterate 2 refine ExF.gi ?_
  iterate 2 refine ExF.pu ?_
  iterate 2 refine ExF.gi ?_
  iterate 2 refine ExF.pu ?_
  iterate 5 refine ExF.gi ?_
  refine ExF.gs (A_buildSliceF (enc := tmE) (l := kT) sl33 ty26 ze26 (by decide) rfl rfl rfl rfl (by decide) (by decide) (fun _ => rfl) rfl) ?_
  refine ExF.cg (C_times_eq kT (by decide)) ?_
  iterate 2 refine ExF.pu ?_
  iterate 4 refine ExF.gi ?_
  refine ExF.gs (A_buildSliceF (enc := tmE) (l := kB) sl33 ty26 ze26 (by decide) rfl rfl rfl rfl (by decide) (by decide) (fun _ => rfl) rfl) ?_
  refine ExF.cg (C_times_eq kB (by decide)) ?_
  iterate 2 refine ExF.pu ?_
  refine ExF.cg C_tactuslaw11_awake ?_
  refine ExF.done ?_
  iterate 2 refine Ex.pu ?_
  refine Ex.nil ?_
  refine X.ret ?_
  refine RetQ.ret (.one (.tmp rfl (LeV.eq ?_)))
  all_goals (first | rfl | simp)
end Go.Rse
