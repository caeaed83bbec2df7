/-
  Walks: the chapter's examples for items.
-/
import Derived.Test.YtmbjfeaipblfcaaGreatDoorTLaw13b
namespace Go.Rse
open Go Go.Proofs Go.RowKit
set_option linter.unusedVariables false
set_option linter.unusedSimpArgs false
theorem itm_E {m : Mn} {l : List Sg} {ch mi pr : List Int} {mns : List (List Int)} (h : ckR m l = 0) (h1 : mnsR m l = mns) (h2 : pairL m l = pr) : itmE m l ch mi = if mns.length = ch.length ∧ chOk ch mns then (if mi.length = pr.length ∧ mnOk mi = true then 0 else 2) else 2 := by
  have a : mkE m l ch = if mns.length = ch.length ∧ chOk ch mns then 0 else 2 := by unfold mkE; rw [if_pos (ckDR h), mnR h h1]
  have b : duE m l mi = if mi.length = pr.length ∧ mnOk mi = true then 0 else 2 := by unfold duE; rw [if_pos (ckDR h), prR h h2]
  unfold itmE; rw [a, b]
  by_cases c : mns.length = ch.length ∧ chOk ch mns
  · rw [if_pos c, if_pos c, if_pos rfl]
  · rw [if_neg c, if_neg c, if_neg (by decide)]
section
variable {m : Mn} {l : List Sg} {ch mi : List Int} {its : List Ite} {e : Int}
theorem C_its_N (hl : l.length ≤ 1000) (h : itmE m l ch [] = e ∧ itmV m l ch [] = its) : Fn Tryz.prog 18 [mnA m, sgsA l, intsA ch, .nils] (.tup [itsA its, iv e]) := by
  have := C_item_Items m l ch [] hl (by decide)
  rw [h.1, h.2] at this
  exact this.leL (.cons (LeV.refl _) (.cons (LeV.refl _) (.cons (LeV.refl _) (.cons (LeV.nils _) .nil))))
theorem C_its_NN (hl : l.length ≤ 1000) (h : itmE m l [] [] = e ∧ itmV m l [] [] = its) : Fn Tryz.prog 18 [mnA m, sgsA l, .nils, .nils] (.tup [itsA its, iv e]) := by
  have := C_item_Items m l [] [] hl (by decide)
  rw [h.1, h.2] at this
  exact this.leL (.cons (LeV.refl _) (.cons (LeV.refl _) (.cons (LeV.nils _) (.cons (LeV.nils _) .nil))))
theorem C_its_D (hl : l.length ≤ 1000) (hmi : mi.length ≤ 1000) (h : itmE m l [] mi = e ∧ itmV m l [] mi = its) : Fn Tryz.prog 18 [mnA m, sgsA l, .nils, intsA mi] (.tup [itsA its, iv e]) := by
  have := C_item_Items m l [] mi hl hmi
  rw [h.1, h.2] at this
  exact this.leL (.cons (LeV.refl _) (.cons (LeV.refl _) (.cons (LeV.nils _) (.cons (LeV.refl _) .nil))))
end
theorem C_two_D (m : Mn) (l : List Sg) (mi : List Int) (a b : Tm) (cut last : Int) (fix fin : Bool) (X0 X1 : Ite) (s : Sg) (hl : l.length ≤ 1000) (hmi : mi.length ≤ 1000) (hE : itmE m l [] mi = 0 ∧ itmV m l [] mi = [X0, X1]) (hs : l[(0 : Int).toNat]? = some s) (h0 : isB X0 a cut fix = true) (h1 : isB X1 b last fin = true) (hv : X0.Value = s.Value) (hc : X0.Color = s.Color) (hz : X0.Sign = 0) :
    Fn Tryz.prog 65 [mnA m, sgsA l, .nils, intsA mi, tmA a, iv cut, .bool fix, tmA b, iv last, .bool fin] (.bool true) :=
  (C_tactuslaw13_two m l [] mi a b cut last fix fin X0 X1 s hl hmi hE hs h0 h1 hv hc hz).leL (.cons (LeV.refl _) (.cons (LeV.refl _) (.cons (LeV.nils _) (LeL.refl _))))
def e13p : List Sg := [sgBlk 4, sgBlk 5]
def e13m : List Sg := [sgNote 3, sgDot, sgRest 4, sgDot]
def m13 : Mn := ⟨2, 3, 3, 2⟩
def p13 (d : Tm) : Ite := ⟨0, 4, false, true, true, 0, d, ⟨0, 1⟩, ⟨0, 1⟩⟩
def q13 (d : Tm) : Ite := ⟨1, 5, false, true, true, 0, d, ⟨0, 1⟩, ⟨0, 1⟩⟩
theorem e13p_1 : itmE mCirc e13p [] [1] = 0 ∧ itmV mCirc e13p [] [1] = [p13 ⟨2, 1⟩, q13 ⟨1, 1⟩] := itm_R (mns := []) (pr := [0]) (by decide) (by decide) (by decide +kernel) (by decide) (by decide) (by decide +kernel)
theorem e13p_2 : itmE mCirc e13p [] [2] = 0 ∧ itmV mCirc e13p [] [2] = [p13 ⟨3, 2⟩, q13 ⟨1, 2⟩] := itm_R (mns := []) (pr := [0]) (by decide) (by decide) (by decide +kernel) (by decide) (by decide) (by decide +kernel)
theorem e13p_3 : itmE mHalf e13p [] [1] = 0 ∧ itmV mHalf e13p [] [1] = [p13 ⟨4, 3⟩, q13 ⟨2, 3⟩] := itm_R (mns := []) (pr := [0]) (by decide) (by decide) (by decide +kernel) (by decide) (by decide) (by decide +kernel)
theorem e13m_1 : itmE m13 e13m [3, 3] [] = 0 ∧ itmV m13 e13m [3, 3] [] = [⟨0, 3, false, false, true, 3, ⟨6, 1⟩, ⟨0, 1⟩, ⟨0, 1⟩⟩, ⟨2, 4, true, false, true, 3, ⟨2, 1⟩, ⟨0, 1⟩, ⟨0, 1⟩⟩] := itm_R (mns := [[2, 3], [3]]) (pr := []) (by decide) (by decide) (by decide +kernel) (by decide) (by decide) (by decide +kernel)
def z13 : Ite := ⟨0, 3, false, true, true, 0, ⟨6, 1⟩, ⟨0, 1⟩, ⟨0, 1⟩⟩
theorem k13_1 : itmE mCirc [sgBlk 3, sgDot] [0] [] = 0 ∧ itmV mCirc [sgBlk 3, sgDot] [0] [] = [z13] := itm_R (mns := [[0]]) (pr := []) (by decide) (by decide) (by decide +kernel) (by decide) (by decide) (by decide +kernel)
theorem k13_2 : itmE mCirc e13b [4] [] = 2 ∧ itmV mCirc e13b [4] [] = [] := by
  have h : itmE mCirc e13b [4] [] = 2 := (itm_E (mns := [[0, 3]]) (pr := []) (by decide) (by decide) (by decide +kernel)).trans (by decide)
  exact ⟨h, itmV_n (by rw [h]; decide)⟩
theorem k13_3 : itmE mCirc e13b [] [] = 2 ∧ itmV mCirc e13b [] [] = [] := by
  have h : itmE mCirc e13b [] [] = 2 := (itm_E (mns := [[0, 3]]) (pr := []) (by decide) (by decide) (by decide +kernel)).trans (by decide)
  exact ⟨h, itmV_n (by rw [h]; decide)⟩
theorem k13_4 : itmE mCirc [sgNote 4] [] [1] = 2 ∧ itmV mCirc [sgNote 4] [] [1] = [] := by
  have h : itmE mCirc [sgNote 4] [] [1] = 2 := (itm_E (mns := []) (pr := []) (by decide) (by decide) (by decide +kernel)).trans (by decide)
  exact ⟨h, itmV_n (by rw [h]; decide)⟩
theorem k13_is : isB z13 ⟨6, 1⟩ 0 true = true := by decide
theorem C_tot_1 : Fn Tryz.prog 36 [itsA [x13 ⟨3, 1⟩ 0 true, y13]] (.tup [tmA ⟨4, 1⟩, iv 0]) := by
  have h := C_item_Total [x13 ⟨3, 1⟩ 0 true, y13] (by decide)
  rw [show sumV (durL [x13 ⟨3, 1⟩ 0 true, y13]) = ⟨4, 1⟩ by decide +kernel, show sumE (durL [x13 ⟨3, 1⟩ 0 true, y13]) = 0 by decide +kernel] at h
  exact h
theorem C_tot_0 : Fn Tryz.prog 36 [.nils] (.tup [tmA ⟨0, 1⟩, iv 0]) := by
  have h := C_item_Total [] (by decide)
  rw [show sumV (durL []) = ⟨0, 1⟩ by decide +kernel, show sumE (durL []) = 0 by decide +kernel] at h
  exact h.leL (.cons (LeV.nils _) .nil)
theorem e13a_m : mnsD mCirc e13a = [[0, 3]] ∧ prL mCirc e13a = [2] := ⟨mnR (by decide) (by decide), prR (by decide) (by decide +kernel)⟩
theorem cb_1 : iofE mCirc e13a 1 = 0 ∧ iofD mCirc e13a 1 = [0] ∧ iofM mCirc e13a 1 = [2] := by
  have h : iofE mCirc e13a 1 = 0 := by unfold iofE; rw [← e13a_c.1, if_pos rfl, ← e13a_c.2]; decide
  refine ⟨h, ?_, ?_⟩
  · unfold iofD; rw [if_pos h, e13a_m.1, e13a_m.2]; decide
  · unfold iofM; rw [if_pos h, e13a_m.2]; decide
theorem cb_2 : iofE mCirc e13a 2 = 0 ∧ iofD mCirc e13a 2 = [3] ∧ iofM mCirc e13a 2 = [1] := by
  have h : iofE mCirc e13a 2 = 0 := by unfold iofE; rw [← e13a_c.1, if_pos rfl, ← e13a_c.2]; decide
  refine ⟨h, ?_, ?_⟩
  · unfold iofD; rw [if_pos h, e13a_m.1, e13a_m.2]; decide
  · unfold iofM; rw [if_pos h, e13a_m.2]; decide
theorem cb_4 : iofE mCirc e13a 4 = 2 ∧ iofD mCirc e13a 4 = [] ∧ iofM mCirc e13a 4 = [] := by
  have h : iofE mCirc e13a 4 = 2 := by unfold iofE; rw [← e13a_c.1, if_pos rfl, ← e13a_c.2]; decide
  exact ⟨h, iofD_n (by rw [h]; decide), iofM_n (by rw [h]; decide)⟩
theorem C_of_K {n e : Int} {a b : List Int} (h : iofE mCirc e13a n = e ∧ iofD mCirc e13a n = a ∧ iofM mCirc e13a n = b) : Fn Tryz.prog 25 [mnA mCirc, sgsA [sgNote 4, sgDot, sgBlk 4, sgBlk 5], iv n] (.tup [intsA a, intsA b, iv e]) := by
  have h2 := C_item_Of mCirc e13a n (by decide)
  rw [h.1, h.2.1, h.2.2] at h2; exact h2
theorem C_rule_K {l : List Sg} {a b pr : List Int} (hl : l.length ≤ 1000) (h : ckR mCirc l = 0) (h1 : ruleR mCirc l = a) (h2 : pairL mCirc l = pr) (h3 : twos pr.length = b) : Fn Tryz.prog 27 [mnA mCirc, sgsA l] (.tup [intsA a, intsA b, iv 0]) := by
  have h4 := C_item_Rule mCirc l hl
  rw [if_pos (ckDR h), ruleD_R (ckDR h), h1, prR h h2, h3, ckDR h] at h4; exact h4
attribute [local irreducible] Pur StepA StepM Ex X ExG Fn Imp LeV LeB FnO It YStep
theorem C_tactuslaw13_ce  : Fn Tryz.prog 84 [] (mnA mHalf) := by
  refine Fn.go Tryz.func84 Tryz.ntmps84 (fun g w d => ?_)
  refine X.seq ?_
  refine X.region ?_
  refine Ex.al ?_
  refine Ex.nil ?_
  refine X.seq ?_
  refine X.region ?_
  refine Ex.pu ?_
  refine Ex.mo ?_
  refine Ex.nil ?_
  refine X.ret ?_
  refine RetQ.ret (.one (.cellA rfl rfl rfl rfl ty23 (LeV.eq ?_)))
  all_goals (first | rfl | (simp_all; done))
theorem C_tactuslaw13_rest (v : Int) : Fn Tryz.prog 85 [iv v] (sgA (sgRest v)) := by
  refine Fn.go Tryz.func85 Tryz.ntmps85 (fun g w d => ?_)
  refine X.seq ?_
  refine X.region ?_
  refine Ex.al ?_
  refine Ex.nil ?_
  refine X.seq ?_
  refine X.region ?_
  iterate 2 refine Ex.pu ?_
  refine Ex.mo ?_
  refine Ex.nil ?_
  refine X.ret ?_
  refine RetQ.ret (.one (.cellA rfl rfl rfl rfl ty49 (LeV.eq ?_)))
  all_goals (first | rfl | (simp_all; done))
set_option maxHeartbeats 8000000 in
theorem C_tactuslaw13_combos  : Fn Tryz.prog 87 [] (.bool true) := by
  refine Fn.go Tryz.func87 Tryz.ntmps87 (fun g w d => ?_)
  refine X.seq ?_
  refine X.region ?_
  refine Ex.pu ?_
  refine Ex.nil ?_
  refine X.seq ?_
  refine X.region ?_
  refine Ex.ca (C_tactuslaw13_note _) ?_
  refine Ex.ca C_tactuslaw13_dot ?_
  refine Ex.ca (C_tactuslaw13_black _) ?_
  refine Ex.ca (C_tactuslaw13_black _) ?_
  refine Ex.stepA (A_buildSliceF (enc := sgE) (l := [sgNote 4, sgDot, sgBlk 4, sgBlk 5]) sl24 ty49 ze49 (by decide) rfl rfl rfl rfl (by decide) (by decide) (fun _ => rfl) rfl) rfl rfl ?_
  refine Ex.ca (C_tactuslaw13_run _) ?_
  refine Ex.pu ?_
  refine Ex.nil ?_
  refine X.seq ?_
  refine X.region ?_
  refine Ex.ca C_tactuslaw13_oh ?_
  refine Ex.pu ?_
  refine Ex.ca (C_of_K cb_1) ?_
  iterate 7 refine Ex.pu ?_
  refine Ex.nil ?_
  refine X.seq ?_
  refine X.region ?_
  refine Ex.ca C_tactuslaw13_oh ?_
  refine Ex.pu ?_
  refine Ex.ca (C_of_K cb_2) ?_
  iterate 7 refine Ex.pu ?_
  refine Ex.nil ?_
  refine X.seq ?_
  refine X.region ?_
  refine Ex.ca C_tactuslaw13_oh ?_
  refine Ex.pu ?_
  refine Ex.ca (C_of_K cb_4) ?_
  iterate 7 refine Ex.pu ?_
  refine Ex.nil ?_
  refine X.seq ?_
  refine X.region ?_
  refine Ex.ca C_tactuslaw13_oh ?_
  refine Ex.pu ?_
  refine Ex.ca (C_rule_K (l := [sgNote 4, sgDot, sgBlk 4, sgBlk 5]) (a := [3]) (b := [2]) (pr := [2]) (by decide) (by decide) (by decide) (by decide +kernel) (by decide)) ?_
  iterate 7 refine Ex.pu ?_
  refine Ex.nil ?_
  refine X.seq ?_
  refine X.region ?_
  refine Ex.ca C_tactuslaw13_oh ?_
  refine Ex.ca (C_tactuslaw13_note _) ?_
  refine Ex.ca C_tactuslaw13_dot ?_
  refine Ex.ca (C_tactuslaw13_note _) ?_
  refine Ex.stepA (A_buildSliceF (enc := sgE) (l := [sgNote 4, sgDot, sgNote 5]) sl24 ty49 ze49 (by decide) rfl rfl rfl rfl (by decide) (by decide) (fun _ => rfl) rfl) rfl rfl ?_
  refine Ex.ca (C_tactuslaw13_run _) ?_
  refine Ex.ca (C_rule_K (l := [sgNote 4, sgDot, sgNote 5]) (a := [0]) (b := []) (pr := []) (by decide) (by decide) (by decide) (by decide +kernel) (by decide)) ?_
  iterate 7 refine Ex.pu ?_
  refine Ex.nil ?_
  refine X.seq ?_
  refine X.region ?_
  iterate 3 refine Ex.pu ?_
  refine Ex.unguard rfl rfl rfl ?_
  refine Ex.pu ?_
  refine Ex.unguard rfl rfl rfl ?_
  iterate 3 refine Ex.pu ?_
  refine Ex.unguard rfl rfl rfl ?_
  refine Ex.pu ?_
  refine Ex.unguard rfl rfl rfl ?_
  iterate 3 refine Ex.pu ?_
  refine Ex.unguard rfl rfl rfl ?_
  refine Ex.pu ?_
  refine Ex.unguard rfl rfl rfl ?_
  iterate 3 refine Ex.pu ?_
  refine Ex.unguard rfl rfl rfl ?_
  refine Ex.pu ?_
  refine Ex.unguard rfl rfl rfl ?_
  iterate 3 refine Ex.pu ?_
  refine Ex.unguard rfl rfl rfl ?_
  refine Ex.pu ?_
  refine Ex.unguard rfl rfl rfl ?_
  refine Ex.stepA (A_buildSliceF (enc := intE) (l := [0]) sl25 ty3 ze3 (by decide) rfl rfl rfl rfl (by decide) (by decide) (fun _ => rfl) rfl) rfl rfl ?_
  refine Ex.unguard rfl rfl rfl ?_
  refine Ex.ca (C_ints_eq [0] (by decide)) ?_
  iterate 2 refine Ex.pu ?_
  refine Ex.unguard rfl rfl rfl ?_
  refine Ex.pu ?_
  refine Ex.unguard rfl rfl rfl ?_
  refine Ex.stepA (A_buildSliceF (enc := intE) (l := [2]) sl25 ty3 ze3 (by decide) rfl rfl rfl rfl (by decide) (by decide) (fun _ => rfl) rfl) rfl rfl ?_
  refine Ex.unguard rfl rfl rfl ?_
  refine Ex.ca (C_ints_eq [2] (by decide)) ?_
  iterate 2 refine Ex.pu ?_
  refine Ex.unguard rfl rfl rfl ?_
  refine Ex.pu ?_
  refine Ex.unguard rfl rfl rfl ?_
  refine Ex.stepA (A_buildSliceF (enc := intE) (l := [3]) sl25 ty3 ze3 (by decide) rfl rfl rfl rfl (by decide) (by decide) (fun _ => rfl) rfl) rfl rfl ?_
  refine Ex.unguard rfl rfl rfl ?_
  refine Ex.ca (C_ints_eq [3] (by decide)) ?_
  iterate 2 refine Ex.pu ?_
  refine Ex.unguard rfl rfl rfl ?_
  refine Ex.pu ?_
  refine Ex.unguard rfl rfl rfl ?_
  refine Ex.stepA (A_buildSliceF (enc := intE) (l := [1]) sl25 ty3 ze3 (by decide) rfl rfl rfl rfl (by decide) (by decide) (fun _ => rfl) rfl) rfl rfl ?_
  refine Ex.unguard rfl rfl rfl ?_
  refine Ex.ca (C_ints_eq [1] (by decide)) ?_
  iterate 2 refine Ex.pu ?_
  refine Ex.unguard rfl rfl rfl ?_
  refine Ex.pu ?_
  refine Ex.unguard rfl rfl rfl ?_
  refine Ex.stepA (A_buildSliceF (enc := intE) (l := [3]) sl25 ty3 ze3 (by decide) rfl rfl rfl rfl (by decide) (by decide) (fun _ => rfl) rfl) rfl rfl ?_
  refine Ex.unguard rfl rfl rfl ?_
  refine Ex.ca (C_ints_eq [3] (by decide)) ?_
  iterate 2 refine Ex.pu ?_
  refine Ex.unguard rfl rfl rfl ?_
  refine Ex.pu ?_
  refine Ex.unguard rfl rfl rfl ?_
  refine Ex.stepA (A_buildSliceF (enc := intE) (l := [2]) sl25 ty3 ze3 (by decide) rfl rfl rfl rfl (by decide) (by decide) (fun _ => rfl) rfl) rfl rfl ?_
  refine Ex.unguard rfl rfl rfl ?_
  refine Ex.ca (C_ints_eq [2] (by decide)) ?_
  iterate 2 refine Ex.pu ?_
  refine Ex.unguard rfl rfl rfl ?_
  refine Ex.pu ?_
  refine Ex.unguard rfl rfl rfl ?_
  refine Ex.stepA (A_buildSliceF (enc := intE) (l := [0]) sl25 ty3 ze3 (by decide) rfl rfl rfl rfl (by decide) (by decide) (fun _ => rfl) rfl) rfl rfl ?_
  refine Ex.unguard rfl rfl rfl ?_
  refine Ex.ca (C_ints_eq [0] (by decide)) ?_
  iterate 2 refine Ex.pu ?_
  refine Ex.unguard rfl rfl rfl ?_
  refine Ex.pu ?_
  refine Ex.unguard rfl rfl rfl ?_
  refine Ex.pu ?_
  refine Ex.unguard rfl rfl rfl ?_
  iterate 3 refine Ex.pu ?_
  refine Ex.nil ?_
  refine X.ret ?_
  refine RetQ.ret (.one (.tmp rfl (LeV.eq ?_)))
  all_goals (first | rfl | simp)
set_option maxHeartbeats 16000000 in
theorem C_tactuslaw13_ItemKnown  : Fn Tryz.prog 29 [] (.bool true) := by
  have hIs := k13_is
  have hz0 : [z13][(0 : Int).toNat]? = some z13 := rfl
  refine Fn.go Tryz.func29 Tryz.ntmps29 (fun g w d => ?_)
  refine X.seq ?_
  refine X.region ?_
  refine Ex.pu ?_
  refine Ex.nil ?_
  refine X.seq ?_
  refine X.region ?_
  refine Ex.ca (C_tactuslaw13_black _) ?_
  refine Ex.ca (C_tactuslaw13_black _) ?_
  refine Ex.stepA (A_buildSliceF (enc := sgE) (l := [sgBlk 4, sgBlk 5]) sl24 ty49 ze49 (by decide) rfl rfl rfl rfl (by decide) (by decide) (fun _ => rfl) rfl) rfl rfl ?_
  refine Ex.ca (C_tactuslaw13_run _) ?_
  refine Ex.pu ?_
  refine Ex.nil ?_
  refine X.seq ?_
  refine X.seq ?_
  refine X.region ?_
  refine Ex.ca C_tactuslaw13_oh ?_
  refine Ex.pu ?_
  refine Ex.stepA (A_buildSliceF (enc := intE) (l := [1]) sl25 ty3 ze3 (by decide) rfl rfl rfl rfl (by decide) (by decide) (fun _ => rfl) rfl) rfl rfl ?_
  refine Ex.ca (C_t13 2 1 (by decide)) ?_
  refine Ex.ca (C_t13 1 1 (by decide)) ?_
  refine Ex.ca (C_two_D mCirc e13p [1] ⟨2, 1⟩ ⟨1, 1⟩ 0 0 true true _ _ (sgBlk 4) (by decide) (by decide) e13p_1 rfl (by decide) (by decide) rfl rfl rfl : Fn _ _ [mnA mCirc, sgsA [sgBlk 4, sgBlk 5], _, _, _, _, _, _, _, _] _) ?_
  iterate 2 refine Ex.pu ?_
  refine Ex.unguard rfl rfl rfl ?_
  refine Ex.ca C_tactuslaw13_oh ?_
  refine Ex.unguard rfl rfl rfl ?_
  refine Ex.pu ?_
  refine Ex.unguard rfl rfl rfl ?_
  refine Ex.stepA (A_buildSliceF (enc := intE) (l := [2]) sl25 ty3 ze3 (by decide) rfl rfl rfl rfl (by decide) (by decide) (fun _ => rfl) rfl) rfl rfl ?_
  refine Ex.unguard rfl rfl rfl ?_
  refine Ex.ca (C_t13 3 2 (by decide)) ?_
  refine Ex.unguard rfl rfl rfl ?_
  refine Ex.ca (C_t13 1 2 (by decide)) ?_
  refine Ex.unguard rfl rfl rfl ?_
  refine Ex.ca (C_two_D mCirc e13p [2] ⟨3, 2⟩ ⟨1, 2⟩ 0 0 true true _ _ (sgBlk 4) (by decide) (by decide) e13p_2 rfl (by decide) (by decide) rfl rfl rfl : Fn _ _ [mnA mCirc, sgsA [sgBlk 4, sgBlk 5], _, _, _, _, _, _, _, _] _) ?_
  refine Ex.unguard rfl rfl rfl ?_
  iterate 3 refine Ex.pu ?_
  refine Ex.unguard rfl rfl rfl ?_
  refine Ex.ca C_tactuslaw13_ce ?_
  refine Ex.unguard rfl rfl rfl ?_
  refine Ex.pu ?_
  refine Ex.unguard rfl rfl rfl ?_
  refine Ex.stepA (A_buildSliceF (enc := intE) (l := [1]) sl25 ty3 ze3 (by decide) rfl rfl rfl rfl (by decide) (by decide) (fun _ => rfl) rfl) rfl rfl ?_
  refine Ex.unguard rfl rfl rfl ?_
  refine Ex.ca (C_t13 4 3 (by decide)) ?_
  refine Ex.unguard rfl rfl rfl ?_
  refine Ex.ca (C_t13 2 3 (by decide)) ?_
  refine Ex.unguard rfl rfl rfl ?_
  refine Ex.ca (C_two_D mHalf e13p [1] ⟨4, 3⟩ ⟨2, 3⟩ 0 0 true true _ _ (sgBlk 4) (by decide) (by decide) e13p_3 rfl (by decide) (by decide) rfl rfl rfl : Fn _ _ [mnA mHalf, sgsA [sgBlk 4, sgBlk 5], _, _, _, _, _, _, _, _] _) ?_
  refine Ex.unguard rfl rfl rfl ?_
  iterate 2 refine Ex.pu ?_
  refine Ex.nil ?_
  refine X.cd rfl (fun hc1 => ?_) (fun hc1 => ?_)
  · simp at hc1
  refine X.skip ?_
  refine X.seq ?_
  refine X.region ?_
  refine Ex.pu ?_
  refine Ex.al ?_
  refine Ex.mo ?_
  refine Ex.nil ?_
  refine X.seq ?_
  refine X.seq ?_
  refine X.dw [44,45,46,47,48,49,50,51,52,53,54,55] [0,0,2,6,14,30,62,0,126,382,1023,2047] mo ?_
  refine ChM.pu ?_
  refine ChM.ca (C_tactuslaw13_note _) ?_
  refine ChM.ca C_tactuslaw13_dot ?_
  refine ChM.ca (C_tactuslaw13_rest _) ?_
  refine ChM.ca C_tactuslaw13_dot ?_
  refine ChM.step rfl rfl rfl (A_buildSliceF (enc := sgE) (l := [sgNote 3, sgDot, sgRest 4, sgDot]) sl24 ty49 ze49 (by decide) rfl rfl rfl rfl (by decide) (by decide) (fun _ => rfl) rfl) rfl ?_
  refine ChM.ca (C_tactuslaw13_run _) ?_
  refine ChM.step rfl rfl rfl (A_buildSliceF (enc := intE) (l := [3, 3]) sl25 ty3 ze3 (by decide) rfl rfl rfl rfl (by decide) (by decide) (fun _ => rfl) rfl) rfl ?_
  refine ChM.ca (C_t13 6 1 (by decide)) ?_
  refine ChM.ca (C_t13 2 1 (by decide)) ?_
  refine ChM.ca (C_two_N m13 e13m [3, 3] ⟨6, 1⟩ ⟨2, 1⟩ 3 3 true true _ _ (sgNote 3) (by decide) e13m_1 rfl (by decide) (by decide) rfl rfl rfl : Fn _ _ [mnA ⟨2, 3, 3, 2⟩, sgsA [sgNote 3, sgDot, sgRest 4, sgDot], _, _, _, _, _, _, _, _] _) ?_
  refine ChM.pu ?_
  refine ChM.tl ?_
  refine Ex.nil ?_
  refine X.cd rfl (fun hc2 => ?_) (fun hc2 => ?_)
  · simp at hc2
  refine X.skip ?_
  refine X.seq ?_
  refine X.region ?_
  refine Ex.ca C_tactuslaw13_oh ?_
  refine Ex.ca (C_tactuslaw13_black _) ?_
  refine Ex.ca C_tactuslaw13_dot ?_
  refine Ex.stepA (A_buildSliceF (enc := sgE) (l := [sgBlk 3, sgDot]) sl24 ty49 ze49 (by decide) rfl rfl rfl rfl (by decide) (by decide) (fun _ => rfl) rfl) rfl rfl ?_
  refine Ex.ca (C_tactuslaw13_run _) ?_
  refine Ex.stepA (A_buildSliceF (enc := intE) (l := [0]) sl25 ty3 ze3 (by decide) rfl rfl rfl rfl (by decide) (by decide) (fun _ => rfl) rfl) rfl rfl ?_
  refine Ex.ca (C_its_N (l := [sgBlk 3, sgDot]) (by decide) k13_1) ?_
  iterate 5 refine Ex.pu ?_
  refine Ex.nil ?_
  refine X.seq ?_
  refine X.region ?_
  refine Ex.ca C_tactuslaw13_oh ?_
  refine Ex.ca (C_tactuslaw13_note _) ?_
  refine Ex.ca C_tactuslaw13_dot ?_
  refine Ex.ca (C_tactuslaw13_note _) ?_
  refine Ex.stepA (A_buildSliceF (enc := sgE) (l := [sgNote 4, sgDot, sgNote 5]) sl24 ty49 ze49 (by decide) rfl rfl rfl rfl (by decide) (by decide) (fun _ => rfl) rfl) rfl rfl ?_
  refine Ex.ca (C_tactuslaw13_run _) ?_
  refine Ex.stepA (A_buildSliceF (enc := intE) (l := [4]) sl25 ty3 ze3 (by decide) rfl rfl rfl rfl (by decide) (by decide) (fun _ => rfl) rfl) rfl rfl ?_
  refine Ex.ca (C_its_N (l := [sgNote 4, sgDot, sgNote 5]) (by decide) k13_2) ?_
  iterate 5 refine Ex.pu ?_
  refine Ex.nil ?_
  refine X.seq ?_
  refine X.region ?_
  refine Ex.ca C_tactuslaw13_oh ?_
  refine Ex.ca (C_tactuslaw13_note _) ?_
  refine Ex.ca C_tactuslaw13_dot ?_
  refine Ex.ca (C_tactuslaw13_note _) ?_
  refine Ex.stepA (A_buildSliceF (enc := sgE) (l := [sgNote 4, sgDot, sgNote 5]) sl24 ty49 ze49 (by decide) rfl rfl rfl rfl (by decide) (by decide) (fun _ => rfl) rfl) rfl rfl ?_
  refine Ex.ca (C_tactuslaw13_run _) ?_
  refine Ex.ca (C_its_NN (l := [sgNote 4, sgDot, sgNote 5]) (by decide) k13_3) ?_
  iterate 5 refine Ex.pu ?_
  refine Ex.nil ?_
  refine X.seq ?_
  refine X.region ?_
  refine Ex.ca C_tactuslaw13_oh ?_
  refine Ex.ca (C_tactuslaw13_note _) ?_
  refine Ex.stepA (A_buildSliceF (enc := sgE) (l := [sgNote 4]) sl24 ty49 ze49 (by decide) rfl rfl rfl rfl (by decide) (by decide) (fun _ => rfl) rfl) rfl rfl ?_
  refine Ex.ca (C_tactuslaw13_run _) ?_
  refine Ex.stepA (A_buildSliceF (enc := intE) (l := [1]) sl25 ty3 ze3 (by decide) rfl rfl rfl rfl (by decide) (by decide) (fun _ => rfl) rfl) rfl rfl ?_
  refine Ex.ca (C_its_D (l := [sgNote 4]) (by decide) (by decide) k13_4) ?_
  iterate 5 refine Ex.pu ?_
  refine Ex.nil ?_
  refine X.seq ?_
  refine X.seq ?_
  refine X.dw [96,97,98,99,100,101,102,103,104,105,106,107,108,109,110,111,112,113,114,115,116,117,118,119,120,121,122] [0,1,3,7,15,31,63,127,255,511,1023,255,4095,8191,16383,32767,65535,131071,262143,524287,1048575,2097151,4194303,8388607,16777215,33554431,67108863] mo ?_
  iterate 3 refine ChM.pu ?_
  iterate 3 refine ChM.gi ?_
  iterate 2 refine ChM.pu ?_
  iterate 3 refine ChM.gi ?_
  refine ChM.cg (C_t13 6 1 (by decide)) ?_
  refine ChM.cg (C_tactuslaw13_is z13 ⟨6, 1⟩ 0 true) ?_
  refine ChM.gi ?_
  iterate 2 refine ChM.pu ?_
  iterate 2 refine ChM.gi ?_
  iterate 2 refine ChM.pu ?_
  iterate 2 refine ChM.gi ?_
  iterate 2 refine ChM.pu ?_
  iterate 2 refine ChM.gi ?_
  refine ChM.pu ?_
  refine ChM.tl ?_
  refine Ex.nil ?_
  refine X.cd rfl (fun hc3 => ?_) (fun hc3 => ?_)
  · simp [hIs] at hc3
  refine X.skip ?_
  refine X.seq ?_
  refine X.region ?_
  refine Ex.ca C_tactuslaw13_oh ?_
  refine Ex.ca (C_tactuslaw13_note _) ?_
  refine Ex.ca C_tactuslaw13_dot ?_
  refine Ex.ca (C_tactuslaw13_note _) ?_
  refine Ex.stepA (A_buildSliceF (enc := sgE) (l := [sgNote 4, sgDot, sgNote 5]) sl24 ty49 ze49 (by decide) rfl rfl rfl rfl (by decide) (by decide) (fun _ => rfl) rfl) rfl rfl ?_
  refine Ex.ca (C_tactuslaw13_run _) ?_
  refine Ex.stepA (A_buildSliceF (enc := intE) (l := [0]) sl25 ty3 ze3 (by decide) rfl rfl rfl rfl (by decide) (by decide) (fun _ => rfl) rfl) rfl rfl ?_
  refine Ex.ca (C_its_N (l := [sgNote 4, sgDot, sgNote 5]) (by decide) e13b_0) ?_
  iterate 5 refine Ex.pu ?_
  refine Ex.nil ?_
  refine X.seq ?_
  refine X.region ?_
  refine Ex.pu ?_
  refine Ex.ca C_tot_1 ?_
  iterate 3 refine Ex.pu ?_
  refine Ex.al ?_
  refine Ex.mo ?_
  refine Ex.pu ?_
  refine Ex.nil ?_
  refine X.seq ?_
  refine X.region ?_
  refine Ex.ca C_tot_0 ?_
  iterate 3 refine Ex.pu ?_
  refine Ex.al ?_
  refine Ex.mo ?_
  refine Ex.pu ?_
  refine Ex.nil ?_
  refine X.seq ?_
  refine X.dw [0,143,144,145,146,147,148,149,150,151,152,153,154,155,156,157,158,159,160,161,162,163,164,165,166,167,168] [0,1,3,7,15,31,63,127,255,511,1023,2047,2047,8191,16383,32767,65535,65535,262143,524287,1048575,2097151,4194303,8388607,16777215,33554431,67108863] mo ?_
  iterate 3 refine ChM.pu ?_
  iterate 2 refine ChM.gi ?_
  iterate 2 refine ChM.pu ?_
  iterate 2 refine ChM.gi ?_
  iterate 2 refine ChM.pu ?_
  refine ChM.gi ?_
  refine ChM.cg (C_t13 4 1 (by decide)) ?_
  refine ChM.gi ?_
  iterate 2 refine ChM.pu ?_
  refine ChM.gi ?_
  refine ChM.cg (C_t13 0 1 (by decide)) ?_
  refine ChM.gi ?_
  iterate 2 refine ChM.pu ?_
  refine ChM.cg C_tactuslaw13_combos ?_
  iterate 2 refine ChM.pu ?_
  refine ChM.cg C_tactuslaw13_awake ?_
  iterate 2 refine ChM.pu ?_
  refine ChM.tl ?_
  refine Ex.nil ?_
  refine X.ret ?_
  refine RetQ.ret (.one (.tmp rfl (LeV.eq ?_)))
  all_goals (first | rfl | simp)
end Go.Rse
