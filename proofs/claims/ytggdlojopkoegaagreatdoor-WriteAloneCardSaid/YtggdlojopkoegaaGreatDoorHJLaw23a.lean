/-
  Walks: what the statements on writing share (circle, all, own, same, beats, run, writes, none, the examples of awake).
-/
import Derived.Test.YtggdlojopkoegaaGreatDoorHJWri5
import Derived.Test.YtggdlojopkoegaaGreatDoorHJLev6
import Derived.Test.YtggdlojopkoegaaGreatDoorHJRef5
import Derived.Test.YtggdlojopkoegaaGreatDoorHJItem3
set_option linter.unusedSimpArgs false
set_option linter.unusedVariables false
namespace Go.Rse
open Go Go.Proofs
abbrev mO : Mn := ⟨2, 2, 3, 2⟩
abbrev hAll : Hb := ⟨true, true, true⟩
def bt1 (n : Int) : Bt := ⟨⟨n / gI n 1, 1 / gI n 1⟩, false⟩
def wnS (x : Int) : Sg := if x = 0 then ⟨3, 0, 0, 0, false, 0, false, false, ⟨0, 0, 0, 0⟩, false, 0, 0, 0, 0⟩ else if x < 0 then ⟨1, -x, 4, 0, true, 0, false, false, ⟨0, 0, 0, 0⟩, false, 0, 0, 0, 0⟩ else ⟨1, x, 4, 0, false, 0, false, false, ⟨0, 0, 0, 0⟩, false, 0, 0, 0, 0⟩
theorem ztE {l : List Int} {k : Nat} {x : Int} (h : l[k]? = some x) : (l.take k).map bt1 ++ [bt1 x] = (l.take (k + 1)).map bt1 := by
 rw [List.take_add_one, h]; simp
theorem ztF {l : List Int} {k : Nat} {x : Int} (h : l[k]? = some x) : (l.take k).map wnS ++ [wnS x] = (l.take (k + 1)).map wnS := by
 rw [List.take_add_one, h]; simp
theorem zlC {α β : Type} (f : α -> β) (l : List α) (k : Nat) : ((l.take k).map f).length <= l.length := by rw [List.length_map, List.length_take]; omega
theorem zoG {α : Type} {l : List α} {k : Nat} {x : α} (h : l[k]? = some x) : l.take k ++ [x] = l.take (k + 1) := by rw [List.take_add_one, h]; rfl
def F6 : List (List Sg) := [[wnS 3], [wnS 3, wnS 0], [wnS (-3)], [wnS (-3), wnS 0], [wnS 4], [wnS 4, wnS 0]]
theorem ztG : (decide (wcE mO [bt1 4] = 0) && decide (fmV mO (bt1 4) hAll = F6)) = true := by kernel_rfl
theorem ztH : (decide (blE mO ([6, 4, 2, 2].map bt1) = 0) && decide (blV mO ([6, 4, 2, 2].map bt1) = [[6].map bt1, [4, 2].map bt1, [2].map bt1])) = true := by kernel_rfl
theorem ztI : (decide (wisE mO ([4, 2, 6].map bt1) ([3, 4, 3].map wnS) = 0) && wisB mO ([4, 2, 6].map bt1) ([3, 4, 3].map wnS)) = true := by kernel_rfl
def wrQ (l : List Int) (h : Hb) (w : List Int) : Bool := decide (wrE mO (l.map bt1) h = 0) && decide (wrV mO (l.map bt1) h = w.map wnS)
theorem ztJ : wrQ [6, 2, 4, 6] ⟨false, false, true⟩ [3, 4, 4, 3] = true := by kernel_rfl
attribute [local irreducible] Pur yA yE Ex X Fn Imp LeV LeB FnO It yG FnW FnOW FnP FnD
attribute [local irreducible] wcE fmV blE blV wisE wisB wrE wrV bt1 wnS
theorem zb  : Fn Tryz.prog 38 [] (mnA mO) := by
 refine Fn.go Tryz.func38 Tryz.ntmps38 (fun g w d => ?_);apply yb;refine yz ?_;apply yj;refine ya ?_;refine Ex.mo ?_;apply Ex.nil;refine X.ret ?_;refine RetQ.ret (.one (.cellA rfl rfl rfl rfl ty23 (LeV.eq ?_)));all_goals (first | rfl | (simp_all; done))
theorem zB  : Fn Tryz.prog 41 [] (hbA hAll) := by
 refine Fn.go Tryz.func41 Tryz.ntmps41 (fun g w d => ?_);apply yb;refine yz ?_;apply yj;refine ya ?_;refine Ex.mo ?_;apply Ex.nil;refine X.ret ?_;refine RetQ.ret (.one (.cellA rfl rfl rfl rfl ty32 (LeV.eq ?_)));all_goals (first | rfl | (simp_all; done))
theorem zdH (a b : List Bt) (hl : a.length <= 4000000000) : Fn Tryz.prog 27 [btsA a, btsA b] (.bool (decide (a = b))) := by
 refine Fn.go Tryz.func27 Tryz.ntmps27 (fun g w d => ?_);apply yb;refine ye ?_;apply yd;apply yb;refine zA ?_;refine yl rfl ?_ ?_<;>intro hc1
 ·have hD : decide (a = b) = false := by rw [decide_eq_false_iff_not]; intro h; subst h; exact hc1 rfl
  apply yb;refine ye ?_;refine X.ret ?_;refine yh ?_;all_goals (rw [hD])
 have hlen : a.length = b.length := by omega
 apply yf;apply yd;apply yb;refine ye ?_;apply X.block
 refine zm (ι := Nat) (fun (k : Nat) => [(0, btsA a), (1, btsA b), (5, iv (k : Int))]) (fun (k : Nat) => []) (fun (k : Nat) => k <= a.length /\ a.take k = b.take k) (fun (k : Nat) => a.length - k) 0 (fun k hk => ?_) (hJ := by
  exact ⟨by omega, by simp⟩) (h0 := by
  exact yu)
 obtain ⟨hk1, hk2⟩ := hk;apply yd;apply yb;refine zaj ?_;refine yl rfl ?_ ?_<;>intro hc2
 ·obtain ⟨x, hx⟩ : ∃ x, a[k]? = some x := ⟨_, lgg (by omega)⟩;have hx2 : a[(k : Int).toNat]? = some x := by simpa using hx
  obtain ⟨y, hy⟩ : ∃ y, b[k]? = some y := ⟨_, lgg (by omega)⟩;have hy2 : b[(k : Int).toNat]? = some y := by simpa using hy
  apply yf;apply yd;apply X.block;apply yd;refine zw [17,18,19,20,21,22,23,24,25] [0,0,3,7,0,0,48,112,255] mo ?_;iterate 8 refine yi ?_
  refine yi ?_ (hs := by exact zc5 (zns _ _) inferInstance TyK.h rfl rfl rfl rfl rfl);refine y4 ?_;apply Ex.nil;refine yl rfl ?_ ?_<;>intro hc3
  ·have hD : decide (a = b) = false := by rw [decide_eq_false_iff_not]; intro h; subst h; rw [hx] at hy; injection hy with hy; exact (by simpa using hc3 : ¬ x = y) hy
   apply yb;refine ye ?_;refine X.ret ?_;refine yh ?_;all_goals (rw [hD])
  apply yf;apply yc;refine yp ?_
  refine yO (k + 1) (hJ := by
   exact ⟨by omega, by rw [← zoG hx, ← zoG hy, hk2, (by simpa using hc3 : x = y)]⟩) (hI := yu)
 ·have hD : decide (a = b) = true := by
   have h1 : k = a.length := by omega
   rw [decide_eq_true_iff]; subst h1; rw [List.take_length, hlen, List.take_length] at hk2; exact hk2
  apply X.exit;apply yb;refine ye ?_;refine X.ret ?_;refine yh ?_;all_goals (rw [hD])
theorem yH (l : List Int) (hl : l.length <= 1000) (hr : ∀ x ∈ l, 0 <= x /\ x <= 1000) : Fn Tryz.prog 39 [yk l] (btsA (l.map bt1)) := by
 have hz0 : [] = (l.take 0).map bt1 := by simp
 refine Fn.go Tryz.func39 Tryz.ntmps39 (fun g w d => ?_);apply yb;refine ya ?_;apply yj;refine ye ?_;iterate 2 apply yd
 refine X.imp (zf btE 42 3 3 30 rfl rfl) ?_;apply yc;refine ye ?_;apply X.block
 refine zm (ι := Nat) (fun (k : Nat) => [(0, yk l), (3, .own 30), (4, iv (k : Int))]) (fun (k : Nat) => [(30, .row btE ((l.take k).map bt1) 42 3)]) (fun (k : Nat) => k <= l.length) (fun (k : Nat) => l.length - k) 0 (fun k hk => ?_) (h0 := by
  exact yu)
 apply yd;apply yb;refine zaj ?_;refine yl rfl ?_ ?_<;>intro hc1
 ·obtain ⟨x, hx⟩ : ∃ x, l[k]? = some x := ⟨_, lgg (by omega)⟩;have hx2 : l[(k : Int).toNat]? = some x := by simpa using hx
  have hxr := hr x (List.mem_of_getElem? hx);have hst := ztE hx;have hst2 : (l.take k).map bt1 ++ [⟨⟨x / gI x 1, 1 / gI x 1⟩, false⟩] = (l.take (k + 1)).map bt1 := by rw [← hst]; unfold bt1; rfl
  have hlt := zlC bt1 l k;apply yf;apply yd;apply X.block;apply yc;iterate 5 refine ya ?_
  refine ym (zdy x 1 (by omega) (by omega)) ?_;refine ya ?_;refine yR btE [⟨⟨x / gI x 1, 1 / gI x 1⟩, false⟩] ?_;refine Ex.mo ?_;refine ye ?_;apply yc;refine yp ?_;refine yO (k + 1) (hI := yu)
 ·obtain rfl : k = l.length := by omega
  have hV : (l.take l.length).map bt1 = l.map bt1 := by rw [List.take_length]
  apply X.exit;apply yb;refine yg ?_;refine X.ret ?_;refine RetQ.imp (Imp.freeze (k := 30) rfl) ?_;refine yh ?_;all_goals (exact congrArg (fun z => btsA z) hV)
set_option maxHeartbeats 1000000 in
theorem zaa (l : List Int) (hl : l.length <= 1000) (hr : ∀ x ∈ l, -1000 <= x /\ x <= 1000) : Fn Tryz.prog 42 [yk l] (sgsA (l.map wnS)) := by
 have hz0 : [] = (l.take 0).map wnS := by simp
 refine Fn.go Tryz.func42 Tryz.ntmps42 (fun g w d => ?_);apply yb;refine ya ?_;apply yj;refine ye ?_;iterate 2 apply yd
 refine X.imp (zf sgE 76 17 3 30 rfl rfl) ?_;apply yc;refine ye ?_;apply X.block
 refine zm (ι := Nat) (fun (k : Nat) => [(0, yk l), (3, .own 30), (4, iv (k : Int))]) (fun (k : Nat) => [(30, .row sgE ((l.take k).map wnS) 76 17)]) (fun (k : Nat) => k <= l.length) (fun (k : Nat) => l.length - k) 0 (fun k hk => ?_) (h0 := by
  exact yu)
 apply yd;apply yb;refine zaj ?_;refine yl rfl ?_ ?_<;>intro hc1
 ·obtain ⟨x, hx⟩ : ∃ x, l[k]? = some x := ⟨_, lgg (by omega)⟩;have hx2 : l[(k : Int).toNat]? = some x := by simpa using hx
  have hxr := hr x (List.mem_of_getElem? hx);have hst := ztF hx;have hlt := zlC wnS l k;apply yf;apply yd;iterate 2 apply X.block
  apply yb;iterate 5 refine ya ?_
  refine ye ?_;refine yl rfl ?_ ?_<;>intro hc2
  ·have hw : wnS x = ⟨3, 0, 0, 0, false, 0, false, false, ⟨0, 0, 0, 0⟩, false, 0, 0, 0, 0⟩ := by unfold wnS; rw [if_pos hc2]
   rw [hw] at hst;apply yc;(iterate 2 refine ya ?_);refine yR sgE [⟨3, 0, 0, 0, false, 0, false, false, ⟨0, 0, 0, 0⟩, false, 0, 0, 0, 0⟩] ?_;refine Ex.mo ?_;refine ye ?_;apply yc;refine yp ?_;refine yO (k + 1) (hI := yu)
  ·have hst2 := hst;apply yb;(iterate 5 refine ya ?_);refine ye ?_;refine yl rfl ?_ ?_<;>intro hc3
   ·have hw : wnS x = ⟨1, -x, 4, 0, true, 0, false, false, ⟨0, 0, 0, 0⟩, false, 0, 0, 0, 0⟩ := by unfold wnS; rw [if_neg hc2, if_pos hc3]
    rw [hw] at hst;apply yc;(iterate 7 refine ya ?_);refine yR sgE [⟨1, -x, 4, 0, true, 0, false, false, ⟨0, 0, 0, 0⟩, false, 0, 0, 0, 0⟩] ?_;refine Ex.mo ?_;refine ye ?_;apply yc;refine yp ?_;refine yO (k + 1) (hI := yu)
   ·have hw : wnS x = ⟨1, x, 4, 0, false, 0, false, false, ⟨0, 0, 0, 0⟩, false, 0, 0, 0, 0⟩ := by unfold wnS; rw [if_neg hc2, if_neg (show ¬ x < 0 by omega)]
    rw [hw] at hst;apply yc;(iterate 6 refine ya ?_);refine yR sgE [⟨1, x, 4, 0, false, 0, false, false, ⟨0, 0, 0, 0⟩, false, 0, 0, 0, 0⟩] ?_;refine Ex.mo ?_;refine ye ?_;apply yc;refine yp ?_;refine yO (k + 1) (hI := yu)
 ·obtain rfl : k = l.length := by omega
  have hV : (l.take l.length).map wnS = l.map wnS := by rw [List.take_length]
  apply X.exit;apply yb;refine yg ?_;refine X.ret ?_;refine RetQ.imp (Imp.freeze (k := 30) rfl) ?_;refine yh ?_;all_goals (exact congrArg (fun z => sgsA z) hV)
theorem zcF (l : List Bt) (h : Hb) (ws : List Int) (hl : l.length <= 4000000000) (hw : ws.length <= 1000) (hr : ∀ x ∈ ws, -1000 <= x /\ x <= 1000) (hv : (wrV mO l h).length <= 4000000000) : Fn Tryz.prog 44 [btsA l, hbA h, yk ws] (.bool (decide (wrE mO l h = 0) && decide (wrV mO l h = ws.map wnS))) := by
 refine Fn.go Tryz.func44 Tryz.ntmps44 (fun g w d => ?_);apply yb;refine yC ?_;refine ye ?_;apply yd;refine zw [7,8,9,10,11,12,13,14,15] [0,0,0,7,15,31,31,63,255] mo ?_;refine y9 zb ?_;iterate 2 refine yi ?_
 refine y9 (zbX mO l h hl) ?_;iterate 5 refine yi ?_
 refine y4 ?_;apply yj;iterate 2 refine ya ?_
 refine ExF.at 2 ?_;refine yM ?_;iterate 2 refine ExF.gi ?_
 refine ExF.cg (zaa ws hw hr) ?_;refine ExF.cg (zu (wrV mO l h) (ws.map wnS) hv) ?_;refine yF ?_;refine yg ?_;refine X.ret ?_;refine yh ?_;all_goals (first | rfl | (simp_all; done))
theorem zdI (l : List Bt) (h : Hb) (hl : l.length <= 4000000000) : Fn Tryz.prog 43 [btsA l, hbA h] (.bool (decide (wrE mO l h = 18) && decide (((wrV mO l h).length : Int) = 0))) := by
 refine Fn.go Tryz.func43 Tryz.ntmps43 (fun g w d => ?_);apply yb;refine yC ?_;refine ye ?_;apply yd;refine zw [5,6,7,8,9,10,11,12,13] [0,0,0,7,15,31,31,63,255] mo ?_;refine y9 zb ?_;iterate 2 refine yi ?_
 refine y9 (zbX mO l h hl) ?_;iterate 5 refine yi ?_
 refine y4 ?_;apply yj;iterate 2 refine ya ?_
 refine ExF.at 2 ?_;refine yM ?_;iterate 3 refine ExF.gi ?_
 refine yF ?_;refine yg ?_;refine X.ret ?_;refine yh ?_;all_goals (first | rfl | (simp_all; done))
theorem zq3 : Fn Tryz.prog 28 [mnA mO, btA (bt1 4), hbA hAll] (.tup [zd9 F6, iv 0]) := by
 have h := zdw mO (bt1 4) hAll;have e := ztG;rw [Bool.and_eq_true, decide_eq_true_iff, decide_eq_true_iff] at e;rw [e.1, e.2] at h; exact h
theorem zq4 : Fn Tryz.prog 52 [mnA mO, btsA ([6, 4, 2, 2].map bt1)] (.tup [blsA [[6].map bt1, [4, 2].map bt1, [2].map bt1], iv 0]) := by
 have h := zf9 mO ([6, 4, 2, 2].map bt1) (by decide);have e := ztH;rw [Bool.and_eq_true, decide_eq_true_iff, decide_eq_true_iff] at e;rw [e.1, e.2] at h; exact h
theorem zq5 : Fn Tryz.prog 34 [mnA mO, btsA ([4, 2, 6].map bt1), sgsA ([3, 4, 3].map wnS)] (.tup [.bool true, iv 0]) := by
 have h := zjs mO ([4, 2, 6].map bt1) ([3, 4, 3].map wnS) (by decide) (by decide);have e := ztI;rw [Bool.and_eq_true, decide_eq_true_iff] at e;rw [e.1, e.2] at h; exact h
theorem ziq {l : List Int} {h : Hb} {w : List Int} (e : wrQ l h w = true) (hl : l.length <= 1000) (hw : w.length <= 1000) (hr : ∀ x ∈ w, -1000 <= x /\ x <= 1000) : Fn Tryz.prog 44 [btsA (l.map bt1), hbA h, yk w] (.bool true) := by
 unfold wrQ at e;have e2 := e;rw [Bool.and_eq_true, decide_eq_true_iff, decide_eq_true_iff] at e2;have c := zcF (l.map bt1) h w (by rw [List.length_map]; omega) hw hr (by rw [e2.2, List.length_map]; omega);rw [e] at c; exact c
set_option maxHeartbeats 4000000 in
set_option maxRecDepth 100000 in
theorem zdq  : Fn Tryz.prog 23 [] (.bool true) := by
 have hb4 : ([4].map bt1)[(0 : Int).toNat]? = some (bt1 4) := rfl;have hf5 : F6[(5 : Int).toNat]? = some [wnS 4, wnS 0] := rfl;have hb1 : ([[6].map bt1, [4, 2].map bt1, [2].map bt1] : List (List Bt))[(1 : Int).toNat]? = some ([4, 2].map bt1) := rfl;refine Fn.go Tryz.func23 Tryz.ntmps23 (fun g w d => ?_);apply yb;refine ye ?_;apply yd;refine zw [1,2,7,8,9,10,11,12,13,14,15,16] [0,0,3,7,15,7,63,127,255,255,511,2047] mo ?_;refine y9 zb ?_;refine ChM.step rfl rfl rfl (yD (enc := intE) (l := [4]) sl61 ty3 ze3 (by decide) rfl rfl rfl rfl (by decide) (by decide) (fun _ => rfl) rfl) rfl ?_;refine y9 (yH [4] (by decide) (by decide)) ?_;iterate 2 refine yi ?_
 refine y9 zB ?_;refine y9 zq3 ?_;iterate 5 refine yi ?_
 refine y4 ?_;apply yj;refine ym zb ?_;refine Ex.stepA (yD (enc := intE) (l := [6, 4, 2, 2]) sl61 ty3 ze3 (by decide) rfl rfl rfl rfl (by decide) (by decide) (fun _ => rfl) rfl) rfl rfl ?_;refine ym (yH [6, 4, 2, 2] (by decide) (by decide)) ?_;refine ym zq4 ?_;iterate 5 refine ya ?_
 apply yj;refine ym zb ?_;refine Ex.stepA (yD (enc := intE) (l := [4, 2, 6]) sl61 ty3 ze3 (by decide) rfl rfl rfl rfl (by decide) (by decide) (fun _ => rfl) rfl) rfl rfl ?_;refine ym (yH [4, 2, 6] (by decide) (by decide)) ?_;refine Ex.stepA (yD (enc := intE) (l := [3, 4, 3]) sl61 ty3 ze3 (by decide) rfl rfl rfl rfl (by decide) (by decide) (fun _ => rfl) rfl) rfl rfl ?_;refine ym (zaa [3, 4, 3] (by decide) (by decide)) ?_;refine ym zq5 ?_;refine zA ?_;apply yd;refine zw [0,33,34,35,36,37,38,39,40,41,42,43,44,45,46,47,48,49,50,51,52,53,54,55,56,57,58,59,60,61,62,63,64,65,66,67,68,69,70,71,72,73,74,75,76,77,78] [0,1,3,7,15,31,63,127,255,511,1023,255,2303,8191,16383,32767,65535,131071,262143,524287,1048575,2097151,4194303,8388607,16777215,33554431,67108863,134217727,33554431,301989887,1073741823,2147483647,4294967295,8589934591,17179869183,34359738367,68719476735,137438953471,274877906943,549755813887,1099511627775,2199023255551,1099511627775,1099511627775,17592186044415,35184372088831,70368744177663] mo ?_;iterate 3 refine yi ?_
 iterate 3 refine ChM.gi ?_
 iterate 2 refine yi ?_
 iterate 3 refine ChM.gi ?_
 refine ChM.gs (yD (enc := intE) (l := [4, 0]) sl61 ty3 ze3 (by decide) rfl rfl rfl rfl (by decide) (by decide) (fun _ => rfl) rfl) ?_;refine ChM.cg (zaa [4, 0] (by decide) (by decide)) ?_;refine ChM.cg (zu [wnS 4, wnS 0] ([4, 0].map wnS) (by decide)) ?_;iterate 2 refine yi ?_
 iterate 2 refine ChM.gi ?_
 iterate 2 refine yi ?_
 iterate 3 refine ChM.gi ?_
 iterate 2 refine yi ?_
 iterate 3 refine ChM.gi ?_
 refine ChM.gs (yD (enc := intE) (l := [4, 2]) sl61 ty3 ze3 (by decide) rfl rfl rfl rfl (by decide) (by decide) (fun _ => rfl) rfl) ?_;refine ChM.cg (yH [4, 2] (by decide) (by decide)) ?_;refine ChM.cg (zdH ([4, 2].map bt1) ([4, 2].map bt1) (by decide)) ?_;iterate 2 refine yi ?_
 iterate 2 refine ChM.gi ?_
 iterate 2 refine yi ?_
 refine ChM.gi ?_;iterate 2 refine yi ?_
 refine ChM.gs (yD (enc := intE) (l := [6, 2, 4, 6]) sl61 ty3 ze3 (by decide) rfl rfl rfl rfl (by decide) (by decide) (fun _ => rfl) rfl) ?_;refine ChM.cg (yH [6, 2, 4, 6] (by decide) (by decide)) ?_;refine ChM.gi ?_;refine ChM.gs (yD (enc := intE) (l := [3, 4, 4, 3]) sl61 ty3 ze3 (by decide) rfl rfl rfl rfl (by decide) (by decide) (fun _ => rfl) rfl) ?_;refine ChM.cg (ziq ztJ (by decide) (by decide) (by decide)) ?_;iterate 2 refine yi ?_
 refine y4 ?_;apply Ex.nil;refine X.ret ?_;refine yh ?_;all_goals (first | rfl | (simp [F6]; done) | simp)
end Go.Rse
namespace Go.Rse
open Go Go.Proofs
abbrev h0Hb : Hb := ⟨false, false, false⟩
def bt2r : Bt := ⟨⟨2 / gI 2 1, 1 / gI 2 1⟩, true⟩
def rtS (v : Int) : Sg := ⟨2, v, 0, 0, false, 0, false, false, ⟨0, 0, 0, 0⟩, false, 0, 0, 0, 0⟩
def F2r : List (List Sg) := [[rtS 4], [rtS 4, wnS 0]]
def fmQ (b : Bt) (h : Hb) (F : List (List Sg)) : Bool := decide (wcE mO [b] = 0) && decide (fmV mO b h = F)
theorem ztK : fmQ (bt1 4) h0Hb [[wnS 3]] = true := by kernel_rfl
theorem ztL : fmQ bt2r hAll F2r = true := by kernel_rfl
theorem ztM : fmQ (bt1 5) hAll [] = true := by kernel_rfl
def noQ (l : List Int) (h : Hb) : Bool := decide (wrE mO (l.map bt1) h = 18) && decide (((wrV mO (l.map bt1) h).length : Int) = 0)
theorem ztN : noQ [6, 2, 4, 6] h0Hb = true := by kernel_rfl
theorem ztO : noQ [5] hAll = true := by kernel_rfl
theorem ztP : wrQ [6, 2, 4, 6] hAll [3, 4, -3, 3] = true := by kernel_rfl
theorem ztQ : wrQ [4, 2, 6] h0Hb [3, 4, 3] = true := by kernel_rfl
theorem ztR : wrQ [3, 1, 2] hAll [4, 0, 5, 4] = true := by kernel_rfl
theorem ztS : wrQ [6, 6, 2, 2, 2] h0Hb [3, 3, 4, 4, 4] = true := by kernel_rfl
theorem zlD {b : Bt} {h : Hb} {F : List (List Sg)} (e : fmQ b h F = true) : Fn Tryz.prog 28 [mnA mO, btA b, hbA h] (.tup [zd9 F, iv 0]) := by
 have c := zdw mO b h;unfold fmQ at e;rw [Bool.and_eq_true, decide_eq_true_iff, decide_eq_true_iff] at e;rw [e.1, e.2] at c; exact c
theorem zoH {l : List Int} {h : Hb} (e : noQ l h = true) (hl : l.length <= 1000) : Fn Tryz.prog 43 [btsA (l.map bt1), hbA h] (.bool true) := by
 have c := zdI (l.map bt1) h (by rw [List.length_map]; omega);unfold noQ at e;rw [e] at c; exact c
attribute [local irreducible] Pur yA yE Ex X Fn Imp LeV LeB FnO It yG FnW FnOW FnP FnD
attribute [local irreducible] wcE fmV wrE wrV bt1 wnS rtS yQ mMk
set_option maxHeartbeats 8000000 in
set_option maxRecDepth 100000 in
theorem zbS  : Fn Tryz.prog 7 [] (.bool true) := by
 have hb4 : ([4].map bt1)[(0 : Int).toNat]? = some (bt1 4) := rfl;have hb5 : ([5].map bt1)[(0 : Int).toNat]? = some (bt1 5) := rfl;have hf0 : ([[wnS 3]] : List (List Sg))[(0 : Int).toNat]? = some [wnS 3] := rfl;have hf1 : F2r[(1 : Int).toNat]? = some [rtS 4, wnS 0] := rfl;have hT := zdy 2 1 (by decide) (by decide);refine Fn.go Tryz.func7 Tryz.ntmps7 (fun g w d => ?_);apply yb;refine ya ?_;apply yj;refine ym zb ?_;refine Ex.stepA (yD (enc := intE) (l := [4]) sl61 ty3 ze3 (by decide) rfl rfl rfl rfl (by decide) (by decide) (fun _ => rfl) rfl) rfl rfl ?_;refine ym (yH [4] (by decide) (by decide)) ?_;iterate 3 refine ya ?_
 refine ym (zlD ztK) ?_;iterate 5 refine ya ?_
 apply yj;refine ym zb ?_;refine ym hT ?_;refine ya ?_;refine ym zB ?_;refine ym (zlD ztL) ?_;refine zA ?_;apply yd;refine zw [5,6,26,27,28,29,30,31,32,33,34,35] [0,0,3,7,15,7,63,127,255,255,511,2047] mo ?_;refine y9 zb ?_;refine ChM.step rfl rfl rfl (yD (enc := intE) (l := [5]) sl61 ty3 ze3 (by decide) rfl rfl rfl rfl (by decide) (by decide) (fun _ => rfl) rfl) rfl ?_;refine y9 (yH [5] (by decide) (by decide)) ?_;iterate 2 refine yi ?_
 refine y9 zB ?_;refine y9 (zlD ztM) ?_;iterate 5 refine yi ?_
 refine y4 ?_;apply Ex.nil;iterate 2 apply yd
 refine zw [36,37,38,39,40,41,42,43,44,45,46,47,48,49,50,51,52,53,54,55,56,57,58,59,60,61,62,63,64,65,66,67,68,69,70,71,72,73,74,75,76] [0,1,3,7,15,31,63,127,255,511,1023,255,2303,8191,16383,32767,65535,131071,262143,524287,1048575,2097151,4194303,8388607,16777215,33554431,67108863,134217727,268435455,536870911,1073741823,2147483647,4294967295,8589934591,17179869183,34359738367,68719476735,137438953471,274877906943,549755813887,1099511627775] mo ?_;iterate 3 refine yi ?_
 iterate 3 refine ChM.gi ?_
 iterate 2 refine yi ?_
 iterate 3 refine ChM.gi ?_
 refine ChM.gs (yD (enc := intE) (l := [3]) sl61 ty3 ze3 (by decide) rfl rfl rfl rfl (by decide) (by decide) (fun _ => rfl) rfl) ?_;refine ChM.cg (zaa [3] (by decide) (by decide)) ?_;refine ChM.cg (zu [wnS 3] ([3].map wnS) (by decide)) ?_;refine ChM.gi ?_;iterate 2 refine yi ?_
 iterate 2 refine ChM.gi ?_
 iterate 2 refine yi ?_
 iterate 3 refine ChM.gi ?_
 iterate 2 refine yi ?_
 iterate 5 refine ChM.gi ?_
 iterate 2 refine yi ?_
 iterate 2 refine ChM.gi ?_
 iterate 2 refine yi ?_
 iterate 3 refine ChM.gi ?_
 refine yi ?_;refine y4 ?_;apply Ex.nil;refine yl rfl ?_ ?_<;>intro hc1
 ·simp [F2r] at hc1
 apply yf;apply yb;refine Ex.stepA (yD (enc := intE) (l := [6, 2, 4, 6]) sl61 ty3 ze3 (by decide) rfl rfl rfl rfl (by decide) (by decide) (fun _ => rfl) rfl) rfl rfl ?_;refine ym (yH [6, 2, 4, 6] (by decide) (by decide)) ?_;refine ya ?_;refine ym (zoH ztN (by decide)) ?_;refine ya ?_;refine yI rfl rfl rfl ?_;refine Ex.stepA (yD (enc := intE) (l := [6, 2, 4, 6]) sl61 ty3 ze3 (by decide) rfl rfl rfl rfl (by decide) (by decide) (fun _ => rfl) rfl) rfl rfl ?_;refine yI rfl rfl rfl ?_;refine ym (yH [6, 2, 4, 6] (by decide) (by decide)) ?_;refine yI rfl rfl rfl ?_;refine ym zB ?_;refine yI rfl rfl rfl ?_;refine Ex.stepA (yD (enc := intE) (l := [3, 4, -3, 3]) sl61 ty3 ze3 (by decide) rfl rfl rfl rfl (by decide) (by decide) (fun _ => rfl) rfl) rfl rfl ?_;refine yI rfl rfl rfl ?_;refine ym (ziq ztP (by decide) (by decide) (by decide)) ?_;iterate 2 refine ya ?_
 refine yI rfl rfl rfl ?_;refine Ex.stepA (yD (enc := intE) (l := [4, 2, 6]) sl61 ty3 ze3 (by decide) rfl rfl rfl rfl (by decide) (by decide) (fun _ => rfl) rfl) rfl rfl ?_;refine yI rfl rfl rfl ?_;refine ym (yH [4, 2, 6] (by decide) (by decide)) ?_;refine yI rfl rfl rfl ?_;refine ya ?_;refine yI rfl rfl rfl ?_;refine Ex.stepA (yD (enc := intE) (l := [3, 4, 3]) sl61 ty3 ze3 (by decide) rfl rfl rfl rfl (by decide) (by decide) (fun _ => rfl) rfl) rfl rfl ?_;refine yI rfl rfl rfl ?_;refine ym (ziq ztQ (by decide) (by decide) (by decide)) ?_;iterate 2 refine ya ?_
 apply yj;refine ym zdq ?_;refine ya ?_;refine yI rfl rfl rfl ?_;iterate 3 refine ya ?_
 refine yI rfl rfl rfl ?_;refine Ex.stepA (yD (enc := intE) (l := [3, 1, 2]) sl61 ty3 ze3 (by decide) rfl rfl rfl rfl (by decide) (by decide) (fun _ => rfl) rfl) rfl rfl ?_;refine yI rfl rfl rfl ?_;refine ym (yH [3, 1, 2] (by decide) (by decide)) ?_;refine yI rfl rfl rfl ?_;refine ym zB ?_;refine yI rfl rfl rfl ?_;refine Ex.stepA (yD (enc := intE) (l := [4, 0, 5, 4]) sl61 ty3 ze3 (by decide) rfl rfl rfl rfl (by decide) (by decide) (fun _ => rfl) rfl) rfl rfl ?_;refine yI rfl rfl rfl ?_;refine ym (ziq ztR (by decide) (by decide) (by decide)) ?_;iterate 2 refine ya ?_
 refine yI rfl rfl rfl ?_;refine Ex.stepA (yD (enc := intE) (l := [5]) sl61 ty3 ze3 (by decide) rfl rfl rfl rfl (by decide) (by decide) (fun _ => rfl) rfl) rfl rfl ?_;refine yI rfl rfl rfl ?_;refine ym (yH [5] (by decide) (by decide)) ?_;refine yI rfl rfl rfl ?_;refine ym zB ?_;refine yI rfl rfl rfl ?_;refine ym (zoH ztO (by decide)) ?_;iterate 2 refine ya ?_
 refine yI rfl rfl rfl ?_;refine Ex.stepA (yD (enc := intE) (l := [6, 6, 2, 2, 2]) sl61 ty3 ze3 (by decide) rfl rfl rfl rfl (by decide) (by decide) (fun _ => rfl) rfl) rfl rfl ?_;refine yI rfl rfl rfl ?_;refine ym (yH [6, 6, 2, 2, 2] (by decide) (by decide)) ?_;refine yI rfl rfl rfl ?_;refine ya ?_;refine yI rfl rfl rfl ?_;refine Ex.stepA (yD (enc := intE) (l := [3, 3, 4, 4, 4]) sl61 ty3 ze3 (by decide) rfl rfl rfl rfl (by decide) (by decide) (fun _ => rfl) rfl) rfl rfl ?_;refine yI rfl rfl rfl ?_;refine ym (ziq ztS (by decide) (by decide) (by decide)) ?_;refine yg ?_;refine X.ret ?_;refine yh ?_;all_goals (first | rfl | simp)
end Go.Rse
namespace Go.Rse
open Go Go.Proofs
def waS (v : Int) (r : Bool) : Sg := if r then ⟨2, v, 0, 0, false, 0, false, false, ⟨0, 0, 0, 0⟩, false, 0, 0, 0, 0⟩ else ⟨1, v, 4, 0, false, 0, false, false, ⟨0, 0, 0, 0⟩, false, 0, 0, 0, 0⟩
def waQ (m : Mn) (v : Int) (r : Bool) (h : Hb) : Bool := decide (wrE m [⟨yQ m v, r⟩] h = 0) && decide (wrV m [⟨yQ m v, r⟩] h = [waS v r])
def waB (m : Mn) (v : Int) : Bool := [false, true].all fun r => [false, true].all fun a => [false, true].all fun b => [false, true].all fun c => waQ m v r ⟨a, b, c⟩
theorem zmW : ziD waB = true := by kernel_rfl
theorem zpw {m : Mn} {v : Int} (hm : ckM m = 0) (h1 : 1 <= v) (h8 : v <= 8) (r : Bool) (h : Hb) : wrE m [⟨yQ m v, r⟩] h = 0 /\ wrV m [⟨yQ m v, r⟩] h = [waS v r] := by
 have e := zeC zmW hm h1 h8
 have q : waQ m v r h = true := by
  obtain ⟨a, b, c⟩ := h;unfold waB at e;simp only [List.all_eq_true] at e;exact e r (by cases r <;> simp) a (by cases a <;> simp) b (by cases b <;> simp) c (by cases c <;> simp)
 unfold waQ at q;simpa using q
end Go.Rse
namespace Go.Rse
open Go Go.Proofs
attribute [local irreducible] Pur yA yE Ex X Fn Imp LeV LeB FnO It yG FnW FnOW FnP FnD
attribute [local irreducible] wrE wrV yQ mMk
set_option maxHeartbeats 4000000 in
theorem C_tactuslaw23_WriteAlone (n v : Int) (p : Bool) (h : Hb) (hn : -9223372036854775808 <= n /\ n <= 9223372036854775807) (hv : -9223372036854775808 <= v /\ v <= 9223372036854775807) : Fn Tryz.prog 9 [iv n, iv v, .bool p, hbA h] (.bool true) := by
 have hm := zeA n hn;have hM := zpB n;generalize mMk n = m at hm hM;have hv0 := Int.emod_nonneg v (show (8 : Int) ≠ 0 by decide);have hv1 := Int.emod_lt_of_pos v (show (0 : Int) < 8 by decide);have hW := zbX m [⟨yQ m (1 + v % 8), p⟩] h (by simp);have hZ1 := zpw hM (show 1 <= 1 + v % 8 by omega) (by omega) p h;obtain ⟨q1, q2⟩ := hZ1;rw [q1, q2] at hW;refine Fn.go Tryz.func9 Tryz.ntmps9 (fun g w d => ?_);apply yb;refine yC ?_;refine ya ?_;apply yj;refine ym zbS ?_;refine ya ?_;apply yj;refine ya ?_;refine ym hm ?_;refine yz ?_;refine Ex.mo ?_;apply yj;refine ya ?_;refine ym (zcu v 8 hv (by decide)) ?_;iterate 2 refine ya ?_
 apply yj;iterate 2 refine ya ?_
 refine ym (zdt hM (show 1 <= 1 + v % 8 by omega) (by omega)) ?_;iterate 3 refine ya ?_
 refine yz ?_;refine Ex.mo ?_;refine ya ?_;apply yj;iterate 4 refine ya ?_
 refine Ex.stepA (yD (enc := btE) (l := [⟨yQ m (1 + v % 8), p⟩]) sl24 ty42 ze42 (by decide) rfl rfl rfl rfl (by decide) (by decide) (fun _ => rfl) rfl) rfl rfl ?_;refine ya ?_;refine ym hW ?_;iterate 5 refine ya ?_
 apply yj;iterate 2 refine ya ?_
 refine yz ?_;refine Ex.mo ?_;apply Ex.nil;apply yd;apply yb;refine ye ?_;refine yl rfl ?_ ?_<;>intro hc1
 ·apply yc;iterate 2 refine ya ?_
  refine Ex.mo ?_;apply yj;refine ya ?_;refine ExF.at 1 ?_;refine yM ?_;iterate 2 refine ExF.gi ?_
  iterate 2 refine yM ?_
  iterate 2 refine ExF.gi ?_
  refine ExF.gs (yD (enc := sgE) (l := [⟨2, (1 + v % 8), 0, 0, false, 0, false, false, ⟨0, 0, 0, 0⟩, false, 0, 0, 0, 0⟩]) sl44 ty76 ze76 (by decide) rfl rfl rfl rfl (by simp) (by simp) (fun _ => rfl) rfl) ?_;refine ExF.cg (zu [waS (1 + v % 8) p] [⟨2, (1 + v % 8), 0, 0, false, 0, false, false, ⟨0, 0, 0, 0⟩, false, 0, 0, 0, 0⟩] (by simp)) ?_;refine yF ?_;refine yg ?_;refine X.ret ?_;refine yh ?_;all_goals (first | (simp [waS, *]; done) | rfl)
 ·apply yf;apply yb;refine ya ?_;refine ExF.at 1 ?_;refine yM ?_;iterate 2 refine ExF.gi ?_
  iterate 2 refine yM ?_
  iterate 2 refine ExF.gi ?_
  refine ExF.gs (yD (enc := sgE) (l := [⟨1, (1 + v % 8), 4, 0, false, 0, false, false, ⟨0, 0, 0, 0⟩, false, 0, 0, 0, 0⟩]) sl44 ty76 ze76 (by decide) rfl rfl rfl rfl (by simp) (by simp) (fun _ => rfl) rfl) ?_;refine ExF.cg (zu [waS (1 + v % 8) p] [⟨1, (1 + v % 8), 4, 0, false, 0, false, false, ⟨0, 0, 0, 0⟩, false, 0, 0, 0, 0⟩] (by simp)) ?_;refine yF ?_;refine yg ?_;refine X.ret ?_;refine yh ?_;all_goals (first | (simp [waS, *]; done) | rfl)
end Go.Rse
