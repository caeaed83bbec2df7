/-
  Walks: WritingsKnown.
-/
import Derived.Test.YtkpbljifckjeoaaGreatDoorQJLaw24a
set_option linter.unusedSimpArgs false
set_option linter.unusedVariables false
namespace Go.Rse
open Go Go.Proofs
abbrev zbh : List Sg := [npS 3, npS 4, npS 3]
abbrev zcy : List Sg := [npS 3, npS 4, npS 3, dtS]
abbrev zcz : List Sg := [npS 4, npS 3, npS 3]
abbrev t426 : List Tm := [⟨4, 1⟩, ⟨2, 1⟩, ⟨6, 1⟩]
abbrev t13 : List Tm := List.replicate 13 ⟨2, 1⟩
theorem zsm : (decide (beE mCe (tMi.map btT) (hbM 7) = 0) && decide (beV mCe (tMi.map btT) (hbM 7) = [nbS 4, nbS 5])) = true := by kernel_rfl
theorem zsn : (decide (rdE mOh zbh = 0) && decide (bsV mOh zbh = t426.map btT)) = true := by kernel_rfl
theorem zso : (decide (unE2 mOh zbh mCe (hbM 0) = 18) && decide (unV2 mOh zbh mCe (hbM 0) = [])) = true := by kernel_rfl
theorem zsp : (decide (unE2 mOh zbh mCe (hbM 2) = 0) && decide (unV2 mOh zbh mCe (hbM 2) = zcy)) = true := by kernel_rfl
theorem zsq : (decide (skE mOh zbh mCe zcy = 0) && decide (skB mOh zbh mCe zcy = true)) = true := by kernel_rfl
theorem zsr : (decide (skE mOh zcz mOh zcz = 0) && decide (skB mOh zcz mOh zcz = false)) = true := by kernel_rfl
theorem zss : (decide (beE mOh ([⟨5, 1⟩].map btT) (hbM 7) = 18) && decide (beV mOh ([⟨5, 1⟩].map btT) (hbM 7) = [])) = true := by kernel_rfl
theorem zst : (decide (wcnE mOh [] (hbM 0) = 0) && decide (((wlV mOh [] (hbM 0)).length : Int) = 1)) = true := by kernel_rfl
theorem zsu : (decide (wcnE mOh (t13.map btT) (hbM 0) = 11) && decide (wlV mOh (t13.map btT) (hbM 0) = [])) = true := by kernel_rfl
attribute [local irreducible] Pur yC yE Ex X Fn Imp LeV LeB FnO It yJ FnW FnOW FnP FnD
attribute [local irreducible] wcnE wlV hbM ndQ btT gI beE beV rdE bsV unE2 unV2 skE skB
theorem zik {P : Program} {f : FuncId} {xs ys : List AV} {r : AV} (h : Fn P f xs r) (hl : LeL ys xs) : Fn P f ys r := by
 unfold Fn at *
 exact ⟨h.1, h.2.1, fun g w args him hr => h.2.2 g w args him (hl.rvl hr)⟩
theorem zuN : Fn Tryz.prog 9 [mnA mCe, btsA (tMi.map btT), hbA (hbM 7)] (.tup [sgsA [nbS 4, nbS 5], iv 0]) := by
 have h := zbl mCe (tMi.map btT) (hbM 7) (by decide);have e := zsm;rw [Bool.and_eq_true, decide_eq_true_iff, decide_eq_true_iff] at e;rw [e.1, e.2] at h; exact h
theorem zuO : Fn Tryz.prog 19 [mnA mOh, sgsA zbh] (.tup [btsA (t426.map btT), iv 0]) := by
 have h := zan mOh zbh (by decide);have e := zsn;rw [Bool.and_eq_true, decide_eq_true_iff, decide_eq_true_iff] at e;rw [e.1, e.2] at h; exact h
theorem zuP : Fn Tryz.prog 20 [mnA mOh, sgsA zbh, mnA mCe, hbA (hbM 0)] (.tup [sgsA [], iv 18]) := by
 have h := zcj mOh zbh mCe (hbM 0) (by decide);have e := zso;rw [Bool.and_eq_true, decide_eq_true_iff, decide_eq_true_iff] at e;rw [e.1, e.2] at h; exact h
theorem zuQ : Fn Tryz.prog 20 [mnA mOh, sgsA zbh, mnA mCe, hbA (hbM 2)] (.tup [sgsA zcy, iv 0]) := by
 have h := zcj mOh zbh mCe (hbM 2) (by decide);have e := zsp;rw [Bool.and_eq_true, decide_eq_true_iff, decide_eq_true_iff] at e;rw [e.1, e.2] at h; exact h
theorem zuR : Fn Tryz.prog 22 [mnA mOh, sgsA zbh, mnA mCe, sgsA zcy] (.tup [.bool true, iv 0]) := by
 have h := zck mOh zbh mCe zcy (by decide) (by decide);have e := zsq;rw [Bool.and_eq_true, decide_eq_true_iff, decide_eq_true_iff] at e;rw [e.1, e.2] at h; exact h
theorem zuS : Fn Tryz.prog 22 [mnA mOh, sgsA zcz, mnA mOh, sgsA zcz] (.tup [.bool false, iv 0]) := by
 have h := zck mOh zcz mOh zcz (by decide) (by decide);have e := zsr;rw [Bool.and_eq_true, decide_eq_true_iff, decide_eq_true_iff] at e;rw [e.1, e.2] at h; exact h
theorem zuT : Fn Tryz.prog 9 [mnA mOh, btsA ([⟨5, 1⟩].map btT), hbA (hbM 7)] (.tup [sgsA [], iv 18]) := by
 have h := zbl mOh ([⟨5, 1⟩].map btT) (hbM 7) (by decide);have e := zss;rw [Bool.and_eq_true, decide_eq_true_iff, decide_eq_true_iff] at e;rw [e.1, e.2] at h; exact h
theorem zuU : Fn Tryz.prog 23 [mnA mOh, .nils, hbA (hbM 0)] (.tup [iv 1, iv 0]) := by
 have h := zeS mOh [] (hbM 0) (by decide);have e := zst;rw [Bool.and_eq_true, decide_eq_true_iff, decide_eq_true_iff] at e;rw [e.1, e.2] at h; exact zik h (.cons (LeV.refl _) (.cons (LeV.nils _) (.cons (LeV.refl _) .nil)))
theorem zuV : Fn Tryz.prog 24 [mnA mOh, btsA (t13.map btT), hbA (hbM 0)] (.tup [z8 [], iv 11]) := by
 have h := zaY mOh (t13.map btT) (hbM 0) (by decide);have e := zsu;rw [Bool.and_eq_true, decide_eq_true_iff, decide_eq_true_iff] at e;rw [e.1, e.2] at h; exact h
set_option maxHeartbeats 16000000 in
set_option maxRecDepth 100000 in
theorem C_tactuslaw24_WritingsKnown  : Fn Tryz.prog 3 [] (.bool true) := by
 refine Fn.go Tryz.func3 Tryz.ntmps3 (fun g w d => ?_);apply yb;refine ya ?_;apply yi;refine yj (zay 3 2 ⟨3, 2⟩ (by kernel_rfl)) ?_;refine yj (zay 1 2 ⟨1, 2⟩ (by kernel_rfl)) ?_;refine Ex.stepA (yy (enc := tmE) (l := tMi) sl54 ty25 ze25 (by decide) rfl rfl rfl rfl (by decide) (by decide) (fun _ => rfl) rfl) rfl rfl ?_;refine yj (yY tMi (by decide)) ?_;refine ya ?_;apply yi;refine yj zA ?_;refine ya ?_;refine yj (zg 7) ?_;refine yj zuN ?_;refine zu ?_;apply yd;apply yb;iterate 2 refine ya ?_
 refine ExF.at 2 ?_;refine yG ?_;refine ExF.gi ?_;refine ExF.cg (zo 4) ?_;refine ExF.cg (zo 5) ?_;refine ExF.gs (yy (enc := sgE) (l := [nbS 4, nbS 5]) sl27 ty41 ze41 (by decide) rfl rfl rfl rfl (by decide) (by decide) (fun _ => rfl) rfl) ?_;refine ExF.cg (zac [nbS 4, nbS 5] [nbS 4, nbS 5] (by decide)) ?_;refine ExF.gi ?_;iterate 2 refine yG ?_
 refine ExF.cg zA ?_;refine ExF.gi ?_;refine ExF.cg (zo 4) ?_;refine ExF.cg (zo 5) ?_;refine ExF.gs (yy (enc := sgE) (l := [nbS 4, nbS 5]) sl27 ty41 ze41 (by decide) rfl rfl rfl rfl (by decide) (by decide) (fun _ => rfl) rfl) ?_;refine ExF.gs (yy (enc := sgsE) (l := [[nbS 4, nbS 5]]) sl55 ty27 ze27 (by decide) rfl rfl rfl rfl (by decide) (by decide) (fun _ => rfl) rfl) ?_;refine ExF.cg (zf0 zrq (by decide)) ?_;refine ExF.gi ?_;iterate 2 refine yG ?_
 refine ExF.cg yQ ?_;refine ExF.cg (zay 2 1 ⟨2, 1⟩ (by kernel_rfl)) ?_;refine ExF.cg (zay 4 1 ⟨4, 1⟩ (by kernel_rfl)) ?_;refine ExF.cg (zay 6 1 ⟨6, 1⟩ (by kernel_rfl)) ?_;refine ExF.gs (yy (enc := tmE) (l := [⟨2, 1⟩, ⟨4, 1⟩, ⟨6, 1⟩]) sl54 ty25 ze25 (by decide) rfl rfl rfl rfl (by decide) (by decide) (fun _ => rfl) rfl) ?_;refine ExF.cg (yY [⟨2, 1⟩, ⟨4, 1⟩, ⟨6, 1⟩] (by decide)) ?_;refine ExF.cg (zik (zf0 zrr (by decide)) (.cons (LeV.refl _) (.cons (LeV.refl _) (.cons (LeV.refl _) (.cons (LeV.nils _) .nil))))) ?_;refine ExF.gi ?_;iterate 2 refine yG ?_
 refine ExF.cg yQ ?_;refine ExF.cg (zay 3 1 ⟨3, 1⟩ (by kernel_rfl)) ?_;refine ExF.cg (zay 1 1 ⟨1, 1⟩ (by kernel_rfl)) ?_;refine ExF.gs (yy (enc := tmE) (l := [⟨3, 1⟩, ⟨1, 1⟩]) sl54 ty25 ze25 (by decide) rfl rfl rfl rfl (by decide) (by decide) (fun _ => rfl) rfl) ?_;refine ExF.cg (yY [⟨3, 1⟩, ⟨1, 1⟩] (by decide)) ?_;refine ExF.cg (yI 4) ?_;refine ExF.cg zQ ?_;refine ExF.cg (yI 5) ?_;refine ExF.gs (yy (enc := sgE) (l := [npS 4, dtS, npS 5]) sl27 ty41 ze41 (by decide) rfl rfl rfl rfl (by decide) (by decide) (fun _ => rfl) rfl) ?_;refine ExF.gs (yy (enc := sgsE) (l := [[npS 4, dtS, npS 5]]) sl55 ty27 ze27 (by decide) rfl rfl rfl rfl (by decide) (by decide) (fun _ => rfl) rfl) ?_;refine ExF.cg (zf0 zrs (by decide)) ?_;refine ExF.gi ?_;refine yH ?_;refine ye ?_;refine yl rfl ?_ ?_<;>intro hc1
 ·simp at hc1
 apply yf;apply yd;apply yb;refine yj yQ ?_;refine yj (zay 4 1 ⟨4, 1⟩ (by kernel_rfl)) ?_;refine yj (zay 2 1 ⟨2, 1⟩ (by kernel_rfl)) ?_;refine yj (zay 6 1 ⟨6, 1⟩ (by kernel_rfl)) ?_;refine Ex.stepA (yy (enc := tmE) (l := t426) sl54 ty25 ze25 (by decide) rfl rfl rfl rfl (by decide) (by decide) (fun _ => rfl) rfl) rfl rfl ?_;refine yj (yY t426 (by decide)) ?_;refine Ex.stepA (yy (enc := intE) (l := [0]) sl59 ty3 ze3 (by decide) rfl rfl rfl rfl (by decide) (by decide) (fun _ => rfl) rfl) rfl rfl ?_;refine yj (zjy zrt (by decide)) ?_;refine ya ?_;refine ExF.at 9 ?_;refine yG ?_;refine ExF.cg yQ ?_;refine ExF.cg (zay 5 1 ⟨5, 1⟩ (by kernel_rfl)) ?_;refine ExF.gs (yy (enc := tmE) (l := [⟨5, 1⟩]) sl54 ty25 ze25 (by decide) rfl rfl rfl rfl (by decide) (by decide) (fun _ => rfl) rfl) ?_;refine ExF.cg (yY [⟨5, 1⟩] (by decide)) ?_;refine ExF.cg (zik (zjy zru (by decide)) (.cons (LeV.refl _) (.cons (LeV.refl _) (.cons (LeV.nils _) .nil)))) ?_;refine ExF.gi ?_;refine yH ?_;refine ye ?_;refine yl rfl ?_ ?_<;>intro hc2
 ·simp at hc2
 apply yf;apply yb;refine yj (yI 3) ?_;refine yj (yI 4) ?_;refine yj (yI 3) ?_;refine Ex.stepA (yy (enc := sgE) (l := zbh) sl27 ty41 ze41 (by decide) rfl rfl rfl rfl (by decide) (by decide) (fun _ => rfl) rfl) rfl rfl ?_;refine ya ?_;apply yi;refine yj yQ ?_;refine ya ?_;refine yj zuO ?_;iterate 5 refine ya ?_
 apply yi;refine yj yQ ?_;refine ya ?_;refine yj zA ?_;refine yj (zg 0) ?_;refine yj zuP ?_;iterate 5 refine ya ?_
 apply yi;refine yj yQ ?_;refine ya ?_;refine yj zA ?_;refine yj (zg 2) ?_;refine yj zuQ ?_;iterate 5 refine ya ?_
 apply yi;refine yj (yI 3) ?_;refine yj (yI 4) ?_;refine yj (yI 3) ?_;refine yj zQ ?_;refine Ex.stepA (yy (enc := sgE) (l := zcy) sl27 ty41 ze41 (by decide) rfl rfl rfl rfl (by decide) (by decide) (fun _ => rfl) rfl) rfl rfl ?_;refine ye ?_;apply yd;apply yb;iterate 2 refine ya ?_
 refine ExF.at 2 ?_;refine yG ?_;refine ExF.gi ?_;refine ExF.cg (zay 4 1 ⟨4, 1⟩ (by kernel_rfl)) ?_;refine ExF.cg (zay 2 1 ⟨2, 1⟩ (by kernel_rfl)) ?_;refine ExF.cg (zay 6 1 ⟨6, 1⟩ (by kernel_rfl)) ?_;refine ExF.gs (yy (enc := tmE) (l := t426) sl54 ty25 ze25 (by decide) rfl rfl rfl rfl (by decide) (by decide) (fun _ => rfl) rfl) ?_;refine ExF.cg (yY t426 (by decide)) ?_;refine ExF.cg (zcc (t426.map btT) (t426.map btT) (by decide)) ?_;refine ExF.gi ?_;iterate 2 refine yG ?_
 iterate 2 refine ExF.gi ?_
 iterate 2 refine yG ?_
 iterate 2 refine ExF.gi ?_
 iterate 2 refine yG ?_
 iterate 2 refine ExF.gi ?_
 refine ExF.cg (zac zcy zcy (by decide)) ?_;refine ExF.gi ?_;refine yH ?_;refine ye ?_;refine yl rfl ?_ ?_<;>intro hc3
 ·simp at hc3
 apply yf;apply yb;refine yj yQ ?_;refine ya ?_;refine yj zA ?_;refine ya ?_;refine yj zuR ?_;iterate 5 refine ya ?_
 apply yi;refine yj (yI 4) ?_;iterate 2 refine yj (yI 3) ?_
 refine Ex.stepA (yy (enc := sgE) (l := zcz) sl27 ty41 ze41 (by decide) rfl rfl rfl rfl (by decide) (by decide) (fun _ => rfl) rfl) rfl rfl ?_;refine ya ?_;apply yi;refine yj yQ ?_;refine ya ?_;refine yj yQ ?_;refine ya ?_;refine yj zuS ?_;iterate 5 refine ya ?_
 apply yi;refine yj yQ ?_;refine yj (zay 5 1 ⟨5, 1⟩ (by kernel_rfl)) ?_;refine Ex.stepA (yy (enc := tmE) (l := [⟨5, 1⟩]) sl54 ty25 ze25 (by decide) rfl rfl rfl rfl (by decide) (by decide) (fun _ => rfl) rfl) rfl rfl ?_;refine yj (yY [⟨5, 1⟩] (by decide)) ?_;refine yj (zg 7) ?_;refine yj zuT ?_;iterate 4 refine ya ?_
 apply yi;refine yj yQ ?_;refine yj (zg 0) ?_;refine yj zuU ?_;iterate 5 refine ya ?_
 apply yi;refine ye ?_;iterate 2 apply yd
 refine X.imp (ze tmE 25 2 16 31 rfl rfl) ?_;apply yc;refine ye ?_;apply X.block
 refine zl (ι := Nat) (fun (k : Nat) => [(3, iv 0), (7, iv 0), (9, iv 18), (11, .bool true), (13, .bool false), (14, iv 1), (15, iv 0), (16, .own 31), (17, iv (k : Int))]) (fun (k : Nat) => [(31, .row tmE (List.replicate k (⟨2, 1⟩ : Tm)) 25 2)]) (fun (k : Nat) => k <= 13) (fun (k : Nat) => 13 - k) 0 (fun k hk => ?_) (hJ := by
  exact Nat.zero_le _) (h0 := by
  exact yq)
 apply yd;apply yb;refine yg ?_;refine yl rfl ?_ ?_<;>intro hc4
 ·have hst : List.replicate k (⟨2, 1⟩ : Tm) ++ [⟨2, 1⟩] = List.replicate (k + 1) (⟨2, 1⟩ : Tm) := (List.replicate_succ').symm;apply yf;apply yd;apply X.block;apply yc;refine ya ?_;refine yj (zay 2 1 ⟨2, 1⟩ (by kernel_rfl)) ?_;refine Ex.stepA (yy (enc := tmE) (l := [⟨2, 1⟩]) sl54 ty25 ze25 (by decide) rfl rfl rfl rfl (by decide) (by decide) (fun _ => rfl) rfl) rfl rfl ?_;refine Ex.mo ?_;refine ye ?_;apply yc;refine yo ?_;refine yM (k + 1) (hI := yq)
 ·obtain rfl : k = 13 := by omega
  apply X.exit;apply yb;refine yj yQ ?_;refine ya ?_;refine Ex.imp (Imp.freeze (k := 31) rfl) ?_;refine yj (yY t13 (by decide)) ?_;refine yj (zg 0) ?_;refine yj zuV ?_;iterate 5 refine ya ?_
  apply yi;refine ya ?_;refine ExF.at 1 ?_;refine yG ?_;iterate 2 refine ExF.gi ?_
  iterate 2 refine yG ?_
  iterate 2 refine ExF.gi ?_
  iterate 2 refine yG ?_
  iterate 2 refine ExF.gi ?_
  iterate 2 refine yG ?_
  iterate 2 refine ExF.gi ?_
  iterate 2 refine yG ?_
  iterate 2 refine ExF.gi ?_
  iterate 2 refine yG ?_
  iterate 2 refine ExF.gi ?_
  iterate 2 refine yG ?_
  iterate 2 refine ExF.gi ?_
  iterate 2 refine yG ?_
  refine ExF.cg zdI ?_;refine yH ?_;refine yg ?_;refine X.ret ?_;refine yh ?_;all_goals (first | rfl | simp)
end Go.Rse
