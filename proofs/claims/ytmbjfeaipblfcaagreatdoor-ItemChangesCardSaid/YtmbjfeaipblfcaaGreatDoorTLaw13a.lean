/-
  Walks: the statements on items under given meanings and on their combinations.
-/
import Derived.Test.YtmbjfeaipblfcaaGreatDoorTItem2
import Derived.Test.YtmbjfeaipblfcaaGreatDoorTItem4
import Derived.Test.YtmbjfeaipblfcaaGreatDoorTKit1
namespace Go.Rse
open Go Go.Proofs Go.RowKit
set_option linter.unusedVariables false
set_option linter.unusedSimpArgs false
theorem Fn.leL {P : Program} {f : FuncId} {xs ys : List AV} {r : AV} (h : Fn P f xs r) (hl : LeL ys xs) : Fn P f ys r := ⟨h.1, h.2.1, fun g w args him hr => h.2.2 g w args him (hl.rvl hr)⟩
attribute [local irreducible] Pur StepA StepM Ex X ExG Fn Imp LeV LeB FnO It YStep
/-! What examples come to. -/
theorem ckDR {m : Mn} {l : List Sg} (h : ckR m l = 0) : ckD m l = 0 := by rw [ckD_R]; exact h
theorem prR {m : Mn} {l : List Sg} {pr : List Int} (h : ckR m l = 0) (h2 : pairL m l = pr) : prL m l = pr := by unfold prL; rw [if_pos (ckDR h)]; exact h2
theorem mnR {m : Mn} {l : List Sg} {mns : List (List Int)} (h : ckR m l = 0) (h1 : mnsR m l = mns) : mnsD m l = mns := by rw [mnsD_R (ckDR h)]; exact h1
theorem itm_R {m : Mn} {l : List Sg} {ch mi pr : List Int} {mns : List (List Int)} {its : List Ite} (h : ckR m l = 0) (h1 : mnsR m l = mns) (h2 : pairL m l = pr) (h3 : mns.length = ch.length ∧ chOk ch mns) (h4 : mi.length = pr.length ∧ mnOk mi = true)
    (h5 : itK l (mkK ch l l.length).1 (mkK ch l l.length).2.1 (dvK m l (markK pr mi pr.length) l.length) l.length = its) : itmE m l ch mi = 0 ∧ itmV m l ch mi = its := by
  have k1 : mkE m l ch = 0 := by unfold mkE; rw [if_pos (ckDR h), mnR h h1, if_pos h3]
  have k2 : duE m l mi = 0 := (duE_3 (ckDR h) (by rw [prR h h2]; exact h4.1) h4.2).symm
  have hE : itmE m l ch mi = 0 := by rw [itmE_b k1]; exact k2
  refine ⟨hE, ?_⟩
  rw [itmV_y hE, ← duV_y k2.symm]
  unfold mkC mkA duM
  rw [if_pos k1, if_pos k1, prR h h2]; exact h5
theorem kL_R {m : Mn} {l : List Sg} {pr : List Int} {mns : List (List Int)} (h : ckR m l = 0) (h1 : mnsR m l = mns) (h2 : pairL m l = pr) : kL m l = mns.map (fun x => (x.length : Int)) ++ twos pr.length := by unfold kL; rw [mnR h h1, prR h h2]
def e13a : List Sg := [sgNote 4, sgDot, sgBlk 4, sgBlk 5]
def e13b : List Sg := [sgNote 4, sgDot, sgNote 5]
theorem e13a_c : 0 = ictE mCirc e13a ∧ 4 = ictV mCirc e13a := ict_lo (ckDR (by decide)) (by rw [kL_R (mns := [[0, 3]]) (pr := [2]) (by decide) (by decide) (by decide +kernel)]; decide) (by decide)
def x13 (d : Tm) (c : Int) (f : Bool) : Ite := ⟨0, 4, false, false, f, c, d, ⟨0, 1⟩, ⟨0, 1⟩⟩
def y13 : Ite := ⟨2, 5, false, false, false, 0, ⟨1, 1⟩, ⟨0, 1⟩, ⟨0, 1⟩⟩
theorem e13b_0 : itmE mCirc e13b [0] [] = 0 ∧ itmV mCirc e13b [0] [] = [x13 ⟨3, 1⟩ 0 true, y13] := itm_R (mns := [[0, 3]]) (pr := []) (by decide) (by decide) (by decide +kernel) (by decide) (by decide) (by decide +kernel)
theorem e13b_3 : itmE mCirc e13b [3] [] = 0 ∧ itmV mCirc e13b [3] [] = [x13 ⟨2, 1⟩ 3 false, y13] := itm_R (mns := [[0, 3]]) (pr := []) (by decide) (by decide) (by decide +kernel) (by decide) (by decide) (by decide +kernel)
/-- Whether an item has a duration, a cut, and is fixed. -/
def isB (x : Ite) (d : Tm) (c : Int) (f : Bool) : Bool := decide (x.Dur = d) && decide (x.Cut = c) && (x.Fixed == f) && decide (x.Before = ⟨0, 1⟩) && decide (x.After = ⟨0, 1⟩)
attribute [local irreducible] itmE itmV ictE ictV iofE iofD iofM ruleD ckD twos prL
theorem C_tactuslaw13_oh  : Fn Tryz.prog 60 [] (mnA mCirc) := by
  refine Fn.go Tryz.func60 Tryz.ntmps60 (fun g w d => ?_)
  refine X.seq ?_
  refine X.region ?_
  refine Ex.al ?_
  refine Ex.nil ?_
  refine X.seq ?_
  refine X.region ?_
  refine Ex.pu ?_
  refine Ex.mo ?_
  refine Ex.nil ?_
  refine X.ret ?_
  refine RetQ.ret (.one (.cellA rfl rfl rfl rfl ty23 (LeV.eq ?_)))
  all_goals (first | rfl | (simp_all; done))
theorem C_tactuslaw13_note (v : Int) : Fn Tryz.prog 62 [iv v] (sgA (sgNote v)) := by
  refine Fn.go Tryz.func62 Tryz.ntmps62 (fun g w d => ?_)
  refine X.seq ?_
  refine X.region ?_
  refine Ex.al ?_
  refine Ex.nil ?_
  refine X.seq ?_
  refine X.region ?_
  iterate 2 refine Ex.pu ?_
  refine Ex.mo ?_
  refine Ex.nil ?_
  refine X.ret ?_
  refine RetQ.ret (.one (.cellA rfl rfl rfl rfl ty49 (LeV.eq ?_)))
  all_goals (first | rfl | (simp_all; done))
theorem C_tactuslaw13_black (v : Int) : Fn Tryz.prog 64 [iv v] (sgA (sgBlk v)) := by
  refine Fn.go Tryz.func64 Tryz.ntmps64 (fun g w d => ?_)
  refine X.seq ?_
  refine X.region ?_
  refine Ex.al ?_
  refine Ex.nil ?_
  refine X.seq ?_
  refine X.region ?_
  iterate 2 refine Ex.pu ?_
  refine Ex.mo ?_
  refine Ex.nil ?_
  refine X.ret ?_
  refine RetQ.ret (.one (.cellA rfl rfl rfl rfl ty49 (LeV.eq ?_)))
  all_goals (first | rfl | (simp_all; done))
theorem C_tactuslaw13_dot  : Fn Tryz.prog 63 [] (sgA sgDot) := by
  refine Fn.go Tryz.func63 Tryz.ntmps63 (fun g w d => ?_)
  refine X.seq ?_
  refine X.region ?_
  refine Ex.al ?_
  refine Ex.nil ?_
  refine X.seq ?_
  refine X.region ?_
  refine Ex.pu ?_
  refine Ex.mo ?_
  refine Ex.nil ?_
  refine X.ret ?_
  refine RetQ.ret (.one (.cellA rfl rfl rfl rfl ty49 (LeV.eq ?_)))
  all_goals (first | rfl | (simp_all; done))
theorem C_tactuslaw13_run (l : List Sg) : Fn Tryz.prog 61 [sgsA l] (sgsA l) := by
  refine Fn.go Tryz.func61 Tryz.ntmps61 (fun g w d => ?_)
  refine X.seq ?_
  refine X.region ?_
  refine Ex.pu ?_
  refine Ex.nil ?_
  refine X.seq ?_
  refine X.region ?_
  iterate 2 refine Ex.pu ?_
  refine Ex.nil ?_
  refine X.ret ?_
  refine RetQ.ret (.one (.tmp rfl (LeV.eq ?_)))
  all_goals (first | rfl | (simp_all; done))
theorem C_tactuslaw13_t (n q : Int) (hn : 0 ≤ n ∧ n ≤ 1000) (hd : 1 ≤ q ∧ q ≤ 1000) (hg : gI n q = 1) : Fn Tryz.prog 37 [iv n, iv q] (tmA ⟨n, q⟩) := by
  have hT := C_tactuskit_T n q (by omega) (by omega)
  rw [hg, Int.ediv_one, Int.ediv_one] at hT
  refine Fn.go Tryz.func37 Tryz.ntmps37 (fun g w d => ?_)
  refine X.seq ?_
  refine X.region ?_
  refine Ex.al ?_
  refine Ex.nil ?_
  refine X.seq ?_
  refine X.region ?_
  iterate 2 refine Ex.pu ?_
  refine Ex.ca hT ?_
  refine Ex.mo ?_
  refine Ex.nil ?_
  refine X.ret ?_
  refine RetQ.ret (.one (.cellA rfl rfl rfl rfl ty51 (LeV.eq ?_)))
  all_goals (first | rfl | (simp_all; done))
set_option maxHeartbeats 4000000 in
theorem C_tactuslaw13_is (x : Ite) (d : Tm) (c : Int) (f : Bool) : Fn Tryz.prog 86 [itA x, tmA d, iv c, .bool f] (.bool (isB x d c f)) := by
  refine Fn.go Tryz.func86 Tryz.ntmps86 (fun g w d => ?_)
  refine X.seq ?_
  refine X.region ?_
  refine Ex.ba ?_
  refine Ex.ba ?_
  refine Ex.pu ?_
  refine Ex.nil ?_
  refine X.seq ?_
  refine X.dw [8,9,10,11,12,13,14,15,16,17,18,19,20,21,22,23,24,25,26,27,28,29,30,31,32,33,34,35,36] [0,1,0,7,15,31,63,31,255,511,1023,2047,4095,2047,16383,32767,65535,131071,262143,131071,1048575,2097151,4194303,8388607,16777215,8388607,67108863,134217727,268435455] mo ?_
  iterate 5 refine ChM.pu ?_
  iterate 4 refine ChM.gi ?_
  iterate 2 refine ChM.pu ?_
  iterate 4 refine ChM.gi ?_
  iterate 2 refine ChM.pu ?_
  iterate 2 refine ChM.gi ?_
  refine ChM.cg (C_tactuslaw13_t 0 1 (by decide) (by decide) (by decide)) ?_
  refine ChM.gi ?_
  iterate 2 refine ChM.pu ?_
  iterate 2 refine ChM.gi ?_
  refine ChM.cg (C_tactuslaw13_t 0 1 (by decide) (by decide) (by decide)) ?_
  refine ChM.gi ?_
  iterate 2 refine ChM.pu ?_
  refine ChM.tl ?_
  refine Ex.nil ?_
  refine X.ret ?_
  refine RetQ.ret (.one (.tmp rfl (LeV.eq ?_)))
  all_goals (unfold isB; rfl)
set_option maxHeartbeats 8000000 in
theorem C_tactuslaw13_two (m : Mn) (l : List Sg) (ch mi : List Int) (a b : Tm) (cut last : Int) (fix fin : Bool) (X0 X1 : Ite) (s : Sg) (hl : l.length ≤ 1000) (hmi : mi.length ≤ 1000) (hE : itmE m l ch mi = 0 ∧ itmV m l ch mi = [X0, X1]) (hs : l[(0 : Int).toNat]? = some s) (h0 : isB X0 a cut fix = true) (h1 : isB X1 b last fin = true) (hv : X0.Value = s.Value) (hc : X0.Color = s.Color) (hz : X0.Sign = 0) : Fn Tryz.prog 65 [mnA m, sgsA l, intsA ch, intsA mi, tmA a, iv cut, .bool fix, tmA b, iv last, .bool fin] (.bool true) := by
  have hIt := C_item_Items m l ch mi hl hmi
  rw [hE.1, hE.2] at hIt
  have hx0 : [X0, X1][(0 : Int).toNat]? = some X0 := rfl
  have hx1 : [X0, X1][(1 : Int).toNat]? = some X1 := rfl
  refine Fn.go Tryz.func65 Tryz.ntmps65 (fun g w d => ?_)
  refine X.seq ?_
  refine X.region ?_
  refine Ex.ba ?_
  refine Ex.ba ?_
  refine Ex.ba ?_
  refine Ex.pu ?_
  refine Ex.nil ?_
  refine X.seq ?_
  refine X.region ?_
  iterate 4 refine Ex.pu ?_
  refine Ex.ca hIt ?_
  iterate 5 refine Ex.pu ?_
  refine Ex.nil ?_
  refine X.seq ?_
  refine X.dw [20,31,32,33,34,35,36,37,38,39,40,41,42,43,44,45,46,47,48,49,50,51,52,53,54,55,56,57,58,59,60,61,62,63,64,65,66,67,68,69,70,71,72,73,74,75,76,77,78,79,80,81,82,83,84] [0,1,3,7,15,31,63,127,255,511,1023,255,255,255,16383,32767,65535,131071,262143,524287,131071,131071,131071,8388607,16777215,33554431,67108863,134217727,268435455,536870911,67108863,1140850687,3288334335,7583301631,17179869183,34359738367,68719476735,137438953471,274877906943,549755813887,1099511627775,137438953471,2336462209023,6734508720127,15530601742335,35184372088831,70368744177663,140737488355327,281474976710655,562949953421311,1125899906842623,2251799813685247,4503599627370495,9007199254740991,18014398509481983] mo ?_
  iterate 3 refine ChM.pu ?_
  iterate 3 refine ChM.gi ?_
  iterate 2 refine ChM.pu ?_
  iterate 6 refine ChM.gi ?_
  refine ChM.cg (C_tactuslaw13_is X0 a cut fix) ?_
  iterate 2 refine ChM.pu ?_
  iterate 6 refine ChM.gi ?_
  refine ChM.cg (C_tactuslaw13_is X1 b last fin) ?_
  iterate 2 refine ChM.pu ?_
  iterate 9 refine ChM.gi ?_
  iterate 2 refine ChM.pu ?_
  iterate 9 refine ChM.gi ?_
  iterate 2 refine ChM.pu ?_
  iterate 5 refine ChM.gi ?_
  iterate 2 refine ChM.pu ?_
  refine ChM.tl ?_
  refine Ex.nil ?_
  refine X.ret ?_
  refine RetQ.ret (.one (.tmp rfl (LeV.eq ?_)))
  all_goals (simp [h0, h1, hv, hc, hz])
theorem C_two_N (m : Mn) (l : List Sg) (ch : List Int) (a b : Tm) (cut last : Int) (fix fin : Bool) (X0 X1 : Ite) (s : Sg) (hl : l.length ≤ 1000) (hE : itmE m l ch [] = 0 ∧ itmV m l ch [] = [X0, X1]) (hs : l[(0 : Int).toNat]? = some s) (h0 : isB X0 a cut fix = true) (h1 : isB X1 b last fin = true) (hv : X0.Value = s.Value) (hc : X0.Color = s.Color) (hz : X0.Sign = 0) :
    Fn Tryz.prog 65 [mnA m, sgsA l, intsA ch, .nils, tmA a, iv cut, .bool fix, tmA b, iv last, .bool fin] (.bool true) :=
  (C_tactuslaw13_two m l ch [] a b cut last fix fin X0 X1 s hl (by decide) hE hs h0 h1 hv hc hz).leL (.cons (LeV.refl _) (.cons (LeV.refl _) (.cons (LeV.refl _) (.cons (LeV.nils _) (LeL.refl _)))))
theorem C_t13 (n q : Int) (h : gI n q = 1 ∧ 0 ≤ n ∧ n ≤ 1000 ∧ 1 ≤ q ∧ q ≤ 1000) : Fn Tryz.prog 37 [iv n, iv q] (tmA ⟨n, q⟩) := C_tactuslaw13_t n q ⟨h.2.1, h.2.2.1⟩ h.2.2.2 h.1
theorem aw13_1 : Fn Tryz.prog 65 [mnA mCirc, sgsA [sgNote 4, sgDot, sgNote 5], intsA [0], .nils, tmA ⟨3, 1⟩, iv 0, .bool true, tmA ⟨1, 1⟩, iv 0, .bool false] (.bool true) :=
  C_two_N mCirc e13b [0] ⟨3, 1⟩ ⟨1, 1⟩ 0 0 true false (x13 ⟨3, 1⟩ 0 true) y13 (sgNote 4) (by decide) e13b_0 rfl (by decide) (by decide) rfl rfl rfl
theorem aw13_2 : Fn Tryz.prog 65 [mnA mCirc, sgsA [sgNote 4, sgDot, sgNote 5], intsA [3], .nils, tmA ⟨2, 1⟩, iv 3, .bool false, tmA ⟨1, 1⟩, iv 0, .bool false] (.bool true) :=
  C_two_N mCirc e13b [3] ⟨2, 1⟩ ⟨1, 1⟩ 3 0 false false (x13 ⟨2, 1⟩ 3 false) y13 (sgNote 4) (by decide) e13b_3 rfl (by decide) (by decide) rfl rfl rfl
theorem aw13_3 : Fn Tryz.prog 23 [mnA mCirc, sgsA [sgNote 4, sgDot, sgBlk 4, sgBlk 5]] (.tup [iv 4, iv 0]) := by
  have h := C_item_Count mCirc e13a (by decide)
  rw [← e13a_c.1, ← e13a_c.2] at h; exact h
set_option maxHeartbeats 8000000 in
theorem C_tactuslaw13_awake  : Fn Tryz.prog 15 [] (.bool true) := by
  refine Fn.go Tryz.func15 Tryz.ntmps15 (fun g w d => ?_)
  refine X.seq ?_
  refine X.region ?_
  refine Ex.pu ?_
  refine Ex.nil ?_
  refine X.seq ?_
  refine X.region ?_
  refine Ex.ca C_tactuslaw13_oh ?_
  refine Ex.ca (C_tactuslaw13_note _) ?_
  refine Ex.ca C_tactuslaw13_dot ?_
  refine Ex.ca (C_tactuslaw13_black _) ?_
  refine Ex.ca (C_tactuslaw13_black _) ?_
  refine Ex.bs sgE [sgNote 4, sgDot, sgBlk 4, sgBlk 5] ?_
  refine Ex.imp (Imp.freeze (k := 9) rfl) ?_
  refine Ex.ca (C_tactuslaw13_run _) ?_
  refine Ex.ca aw13_3 ?_
  iterate 5 refine Ex.pu ?_
  refine Ex.nil ?_
  refine X.seq ?_
  refine X.region ?_
  iterate 3 refine Ex.pu ?_
  refine Ex.unguard rfl rfl rfl ?_
  refine Ex.pu ?_
  refine Ex.unguard rfl rfl rfl ?_
  iterate 3 refine Ex.pu ?_
  refine Ex.unguard rfl rfl rfl ?_
  refine Ex.ca C_tactuslaw13_oh ?_
  refine Ex.unguard rfl rfl rfl ?_
  refine Ex.ca (C_tactuslaw13_note _) ?_
  refine Ex.unguard rfl rfl rfl ?_
  refine Ex.ca C_tactuslaw13_dot ?_
  refine Ex.unguard rfl rfl rfl ?_
  refine Ex.ca (C_tactuslaw13_note _) ?_
  refine Ex.unguard rfl rfl rfl ?_
  refine Ex.bs sgE [sgNote 4, sgDot, sgNote 5] ?_
  refine Ex.unguard rfl rfl rfl ?_
  refine Ex.imp (Imp.freeze (k := 25) rfl) ?_
  refine Ex.ca (C_tactuslaw13_run _) ?_
  refine Ex.unguard rfl rfl rfl ?_
  refine Ex.bs intE [0] ?_
  refine Ex.unguard rfl rfl rfl ?_
  refine Ex.imp (Imp.freeze (k := 27) rfl) ?_
  refine Ex.ca (C_t13 3 1 (by decide)) ?_
  refine Ex.unguard rfl rfl rfl ?_
  refine Ex.ca (C_t13 1 1 (by decide)) ?_
  refine Ex.unguard rfl rfl rfl ?_
  refine Ex.ca aw13_1 ?_
  iterate 2 refine Ex.pu ?_
  refine Ex.unguard rfl rfl rfl ?_
  refine Ex.ca C_tactuslaw13_oh ?_
  refine Ex.unguard rfl rfl rfl ?_
  refine Ex.ca (C_tactuslaw13_note _) ?_
  refine Ex.unguard rfl rfl rfl ?_
  refine Ex.ca C_tactuslaw13_dot ?_
  refine Ex.unguard rfl rfl rfl ?_
  refine Ex.ca (C_tactuslaw13_note _) ?_
  refine Ex.unguard rfl rfl rfl ?_
  refine Ex.bs sgE [sgNote 4, sgDot, sgNote 5] ?_
  refine Ex.unguard rfl rfl rfl ?_
  refine Ex.imp (Imp.freeze (k := 37) rfl) ?_
  refine Ex.ca (C_tactuslaw13_run _) ?_
  refine Ex.unguard rfl rfl rfl ?_
  refine Ex.bs intE [3] ?_
  refine Ex.unguard rfl rfl rfl ?_
  refine Ex.imp (Imp.freeze (k := 39) rfl) ?_
  refine Ex.ca (C_t13 2 1 (by decide)) ?_
  refine Ex.unguard rfl rfl rfl ?_
  refine Ex.ca (C_t13 1 1 (by decide)) ?_
  refine Ex.unguard rfl rfl rfl ?_
  refine Ex.ca aw13_2 ?_
  iterate 2 refine Ex.pu ?_
  refine Ex.nil ?_
  refine X.ret ?_
  refine RetQ.ret (.one (.tmp rfl (LeV.eq ?_)))
  all_goals (rfl)
end Go.Rse
