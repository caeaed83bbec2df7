/-
  Walks: what the statements on writing share (circle, all, own, same, beats, run, writes, none, the examples of awake).
-/
import Derived.Test.YtggdlojopkoegaaGreatDoorOJWri5
import Derived.Test.YtggdlojopkoegaaGreatDoorOJLev6
import Derived.Test.YtggdlojopkoegaaGreatDoorOJRef5
set_option linter.unusedSimpArgs false
set_option linter.unusedVariables false
namespace Go.Rse
open Go Go.Proofs
abbrev mO : Mn := ⟨2, 2, 3, 2⟩
abbrev hAll : Hb := ⟨true, true, true⟩
def bt1 (n : Int) : Bt := ⟨⟨n / gI n 1, 1 / gI n 1⟩, false⟩
def wnS (x : Int) : Sg := if x = 0 then ⟨3, 0, 0, 0, false, 0, false, false, ⟨0, 0, 0, 0⟩, false, 0, 0, 0, 0⟩ else if x < 0 then ⟨1, -x, 4, 0, true, 0, false, false, ⟨0, 0, 0, 0⟩, false, 0, 0, 0, 0⟩ else ⟨1, x, 4, 0, false, 0, false, false, ⟨0, 0, 0, 0⟩, false, 0, 0, 0, 0⟩
theorem zt3 {l : List Int} {k : Nat} {x : Int} (h : l[k]? = some x) : (l.take k).map bt1 ++ [bt1 x] = (l.take (k + 1)).map bt1 := by
 rw [List.take_add_one, h]; simp
theorem zt4 {l : List Int} {k : Nat} {x : Int} (h : l[k]? = some x) : (l.take k).map wnS ++ [wnS x] = (l.take (k + 1)).map wnS := by
 rw [List.take_add_one, h]; simp
theorem zlP {α β : Type} (f : α -> β) (l : List α) (k : Nat) : ((l.take k).map f).length <= l.length := by rw [List.length_map, List.length_take]; omega
theorem zo0 {α : Type} {l : List α} {k : Nat} {x : α} (h : l[k]? = some x) : l.take k ++ [x] = l.take (k + 1) := by rw [List.take_add_one, h]; rfl
def F6 : List (List Sg) := [[wnS 3], [wnS 3, wnS 0], [wnS (-3)], [wnS (-3), wnS 0], [wnS 4], [wnS 4, wnS 0]]
theorem zt5 : (decide (wcE mO [bt1 4] = 0) && decide (fmV mO (bt1 4) hAll = F6)) = true := by kernel_rfl
theorem zt6 : (decide (blE mO ([6, 4, 2, 2].map bt1) = 0) && decide (blV mO ([6, 4, 2, 2].map bt1) = [[6].map bt1, [4, 2].map bt1, [2].map bt1])) = true := by kernel_rfl
theorem zt7 : (decide (wisE mO ([4, 2, 6].map bt1) ([3, 4, 3].map wnS) = 0) && wisB mO ([4, 2, 6].map bt1) ([3, 4, 3].map wnS)) = true := by kernel_rfl
def wrQ (l : List Int) (h : Hb) (w : List Int) : Bool := decide (wrE mO (l.map bt1) h = 0) && decide (wrV mO (l.map bt1) h = w.map wnS)
theorem zt8 : wrQ [6, 2, 4, 6] ⟨false, false, true⟩ [3, 4, 4, 3] = true := by kernel_rfl
attribute [local irreducible] Pur yz yA Ex X Fn Imp LeV LeB FnO It yE FnW FnOW FnP FnD
attribute [local irreducible] wcE fmV blE blV wisE wisB wrE wrV bt1 wnS
theorem zd  : Fn Tryz.prog 38 [] (mnA mO) := by
 refine Fn.go Tryz.func38 Tryz.ntmps38 (fun g w d => ?_);apply yb;refine yC ?_;apply yj;refine ya ?_;refine Ex.mo ?_;apply Ex.nil;refine X.ret ?_;refine RetQ.ret (.one (.cellA rfl rfl rfl rfl ty23 (LeV.eq ?_)));all_goals (first | rfl | (simp_all; done))
theorem zA  : Fn Tryz.prog 41 [] (hbA hAll) := by
 refine Fn.go Tryz.func41 Tryz.ntmps41 (fun g w d => ?_);apply yb;refine yC ?_;apply yj;refine ya ?_;refine Ex.mo ?_;apply Ex.nil;refine X.ret ?_;refine RetQ.ret (.one (.cellA rfl rfl rfl rfl ty32 (LeV.eq ?_)));all_goals (first | rfl | (simp_all; done))
theorem zbq (a b : List Bt) (hl : a.length <= 4000000000) : Fn Tryz.prog 27 [btsA a, btsA b] (.bool (decide (a = b))) := by
 refine Fn.go Tryz.func27 Tryz.ntmps27 (fun g w d => ?_);apply yb;refine ye ?_;apply yd;apply yb;refine zw ?_;refine yk rfl ?_ ?_<;>intro hc1
 ·have hD : decide (a = b) = false := by rw [decide_eq_false_iff_not]; intro h; subst h; exact hc1 rfl
  apply yb;refine ye ?_;refine X.ret ?_;refine yh ?_;all_goals (rw [hD])
 have hlen : a.length = b.length := by omega
 apply yf;apply yd;apply yb;refine ye ?_;apply X.block
 refine zj (ι := Nat) (fun (k : Nat) => [(0, btsA a), (1, btsA b), (5, iv (k : Int))]) (fun (k : Nat) => []) (fun (k : Nat) => k <= a.length /\ a.take k = b.take k) (fun (k : Nat) => a.length - k) 0 (fun k hk => ?_) (hJ := by
  exact ⟨by omega, by simp⟩) (h0 := by
  exact yq)
 obtain ⟨hk1, hk2⟩ := hk;apply yd;apply yb;refine z6 ?_;refine yk rfl ?_ ?_<;>intro hc2
 ·obtain ⟨x, hx⟩ : ∃ x, a[k]? = some x := ⟨_, lgg (by omega)⟩;have hx2 : a[(k : Int).toNat]? = some x := by simpa using hx
  obtain ⟨y, hy⟩ : ∃ y, b[k]? = some y := ⟨_, lgg (by omega)⟩;have hy2 : b[(k : Int).toNat]? = some y := by simpa using hy
  apply yf;apply yd;apply X.block;apply yd;refine zv [17,18,19,20,21,22,23,24,25] [0,0,3,7,0,0,48,112,255] mo ?_;iterate 8 refine yi ?_
  refine yi ?_ (hs := by exact zda (znK _ _) inferInstance TyK.h rfl rfl rfl rfl rfl);refine y4 ?_;apply Ex.nil;refine yk rfl ?_ ?_<;>intro hc3
  ·have hD : decide (a = b) = false := by rw [decide_eq_false_iff_not]; intro h; subst h; rw [hx] at hy; injection hy with hy; exact (by simpa using hc3 : ¬ x = y) hy
   apply yb;refine ye ?_;refine X.ret ?_;refine yh ?_;all_goals (rw [hD])
  apply yf;apply yc;refine yo ?_
  refine yL (k + 1) (hJ := by
   exact ⟨by omega, by rw [← zo0 hx, ← zo0 hy, hk2, (by simpa using hc3 : x = y)]⟩) (hI := yq)
 ·have hD : decide (a = b) = true := by
   have h1 : k = a.length := by omega
   rw [decide_eq_true_iff]; subst h1; rw [List.take_length, hlen, List.take_length] at hk2; exact hk2
  apply X.exit;apply yb;refine ye ?_;refine X.ret ?_;refine yh ?_;all_goals (rw [hD])
theorem yH (l : List Int) (hl : l.length <= 1000) (hr : ∀ x ∈ l, 0 <= x /\ x <= 1000) : Fn Tryz.prog 39 [yl l] (btsA (l.map bt1)) := by
 have hz0 : [] = (l.take 0).map bt1 := by simp
 refine Fn.go Tryz.func39 Tryz.ntmps39 (fun g w d => ?_);apply yb;refine ya ?_;apply yj;refine ye ?_;iterate 2 apply yd
 refine X.imp (y9 btE 42 3 3 30 rfl rfl) ?_;apply yc;refine ye ?_;apply X.block
 refine zj (ι := Nat) (fun (k : Nat) => [(0, yl l), (3, .own 30), (4, iv (k : Int))]) (fun (k : Nat) => [(30, .row btE ((l.take k).map bt1) 42 3)]) (fun (k : Nat) => k <= l.length) (fun (k : Nat) => l.length - k) 0 (fun k hk => ?_) (h0 := by
  exact yq)
 apply yd;apply yb;refine z6 ?_;refine yk rfl ?_ ?_<;>intro hc1
 ·obtain ⟨x, hx⟩ : ∃ x, l[k]? = some x := ⟨_, lgg (by omega)⟩;have hx2 : l[(k : Int).toNat]? = some x := by simpa using hx
  have hxr := hr x (List.mem_of_getElem? hx);have hst := zt3 hx;have hst2 : (l.take k).map bt1 ++ [⟨⟨x / gI x 1, 1 / gI x 1⟩, false⟩] = (l.take (k + 1)).map bt1 := by rw [← hst]; unfold bt1; rfl
  have hlt := zlP bt1 l k;apply yf;apply yd;apply X.block;apply yc;iterate 5 refine ya ?_
  refine ym (zbU x 1 (by omega) (by omega)) ?_;refine ya ?_;refine yQ btE [⟨⟨x / gI x 1, 1 / gI x 1⟩, false⟩] ?_;refine Ex.mo ?_;refine ye ?_;apply yc;refine yo ?_;refine yL (k + 1) (hI := yq)
 ·obtain rfl : k = l.length := by omega
  have hV : (l.take l.length).map bt1 = l.map bt1 := by rw [List.take_length]
  apply X.exit;apply yb;refine yg ?_;refine X.ret ?_;refine RetQ.imp (Imp.freeze (k := 30) rfl) ?_;refine yh ?_;all_goals (exact congrArg (fun z => btsA z) hV)
set_option maxHeartbeats 1000000 in
theorem z8 (l : List Int) (hl : l.length <= 1000) (hr : ∀ x ∈ l, -1000 <= x /\ x <= 1000) : Fn Tryz.prog 42 [yl l] (sgsA (l.map wnS)) := by
 have hz0 : [] = (l.take 0).map wnS := by simp
 refine Fn.go Tryz.func42 Tryz.ntmps42 (fun g w d => ?_);apply yb;refine ya ?_;apply yj;refine ye ?_;iterate 2 apply yd
 refine X.imp (y9 sgE 76 17 3 30 rfl rfl) ?_;apply yc;refine ye ?_;apply X.block
 refine zj (ι := Nat) (fun (k : Nat) => [(0, yl l), (3, .own 30), (4, iv (k : Int))]) (fun (k : Nat) => [(30, .row sgE ((l.take k).map wnS) 76 17)]) (fun (k : Nat) => k <= l.length) (fun (k : Nat) => l.length - k) 0 (fun k hk => ?_) (h0 := by
  exact yq)
 apply yd;apply yb;refine z6 ?_;refine yk rfl ?_ ?_<;>intro hc1
 ·obtain ⟨x, hx⟩ : ∃ x, l[k]? = some x := ⟨_, lgg (by omega)⟩;have hx2 : l[(k : Int).toNat]? = some x := by simpa using hx
  have hxr := hr x (List.mem_of_getElem? hx);have hst := zt4 hx;have hlt := zlP wnS l k;apply yf;apply yd;iterate 2 apply X.block
  apply yb;iterate 5 refine ya ?_
  refine ye ?_;refine yk rfl ?_ ?_<;>intro hc2
  ·have hw : wnS x = ⟨3, 0, 0, 0, false, 0, false, false, ⟨0, 0, 0, 0⟩, false, 0, 0, 0, 0⟩ := by unfold wnS; rw [if_pos hc2]
   rw [hw] at hst;apply yc;(iterate 2 refine ya ?_);refine yQ sgE [⟨3, 0, 0, 0, false, 0, false, false, ⟨0, 0, 0, 0⟩, false, 0, 0, 0, 0⟩] ?_;refine Ex.mo ?_;refine ye ?_;apply yc;refine yo ?_;refine yL (k + 1) (hI := yq)
  ·have hst2 := hst;apply yb;(iterate 5 refine ya ?_);refine ye ?_;refine yk rfl ?_ ?_<;>intro hc3
   ·have hw : wnS x = ⟨1, -x, 4, 0, true, 0, false, false, ⟨0, 0, 0, 0⟩, false, 0, 0, 0, 0⟩ := by unfold wnS; rw [if_neg hc2, if_pos hc3]
    rw [hw] at hst;apply yc;(iterate 7 refine ya ?_);refine yQ sgE [⟨1, -x, 4, 0, true, 0, false, false, ⟨0, 0, 0, 0⟩, false, 0, 0, 0, 0⟩] ?_;refine Ex.mo ?_;refine ye ?_;apply yc;refine yo ?_;refine yL (k + 1) (hI := yq)
   ·have hw : wnS x = ⟨1, x, 4, 0, false, 0, false, false, ⟨0, 0, 0, 0⟩, false, 0, 0, 0, 0⟩ := by unfold wnS; rw [if_neg hc2, if_neg (show ¬ x < 0 by omega)]
    rw [hw] at hst;apply yc;(iterate 6 refine ya ?_);refine yQ sgE [⟨1, x, 4, 0, false, 0, false, false, ⟨0, 0, 0, 0⟩, false, 0, 0, 0, 0⟩] ?_;refine Ex.mo ?_;refine ye ?_;apply yc;refine yo ?_;refine yL (k + 1) (hI := yq)
 ·obtain rfl : k = l.length := by omega
  have hV : (l.take l.length).map wnS = l.map wnS := by rw [List.take_length]
  apply X.exit;apply yb;refine yg ?_;refine X.ret ?_;refine RetQ.imp (Imp.freeze (k := 30) rfl) ?_;refine yh ?_;all_goals (exact congrArg (fun z => sgsA z) hV)
theorem zcI (l : List Bt) (h : Hb) (ws : List Int) (hl : l.length <= 4000000000) (hw : ws.length <= 1000) (hr : ∀ x ∈ ws, -1000 <= x /\ x <= 1000) (hv : (wrV mO l h).length <= 4000000000) : Fn Tryz.prog 44 [btsA l, hbA h, yl ws] (.bool (decide (wrE mO l h = 0) && decide (wrV mO l h = ws.map wnS))) := by
 refine Fn.go Tryz.func44 Tryz.ntmps44 (fun g w d => ?_);apply yb;refine yD ?_;refine ye ?_;apply yd;refine zv [7,8,9,10,11,12,13,14,15] [0,0,0,7,15,31,31,63,255] mo ?_;refine za zd ?_;iterate 2 refine yi ?_
 refine za (zdI mO l h hl) ?_;iterate 5 refine yi ?_
 refine y4 ?_;apply yj;iterate 2 refine ya ?_
 refine ExF.at 2 ?_;refine yO ?_;iterate 2 refine ExF.gi ?_
 refine ExF.cg (z8 ws hw hr) ?_;refine ExF.cg (z7 (wrV mO l h) (ws.map wnS) hv) ?_;refine yF ?_;refine yg ?_;refine X.ret ?_;refine yh ?_;all_goals (first | rfl | (simp_all; done))
theorem zdN (l : List Bt) (h : Hb) (hl : l.length <= 4000000000) : Fn Tryz.prog 43 [btsA l, hbA h] (.bool (decide (wrE mO l h = 18) && decide (((wrV mO l h).length : Int) = 0))) := by
 refine Fn.go Tryz.func43 Tryz.ntmps43 (fun g w d => ?_);apply yb;refine yD ?_;refine ye ?_;apply yd;refine zv [5,6,7,8,9,10,11,12,13] [0,0,0,7,15,31,31,63,255] mo ?_;refine za zd ?_;iterate 2 refine yi ?_
 refine za (zdI mO l h hl) ?_;iterate 5 refine yi ?_
 refine y4 ?_;apply yj;iterate 2 refine ya ?_
 refine ExF.at 2 ?_;refine yO ?_;iterate 3 refine ExF.gi ?_
 refine yF ?_;refine yg ?_;refine X.ret ?_;refine yh ?_;all_goals (first | rfl | (simp_all; done))
theorem zrt : Fn Tryz.prog 28 [mnA mO, btA (bt1 4), hbA hAll] (.tup [zef F6, iv 0]) := by
 have h := zdC mO (bt1 4) hAll;have e := zt5;rw [Bool.and_eq_true, decide_eq_true_iff, decide_eq_true_iff] at e;rw [e.1, e.2] at h; exact h
theorem zru : Fn Tryz.prog 52 [mnA mO, btsA ([6, 4, 2, 2].map bt1)] (.tup [blsA [[6].map bt1, [4, 2].map bt1, [2].map bt1], iv 0]) := by
 have h := zcR mO ([6, 4, 2, 2].map bt1) (by decide);have e := zt6;rw [Bool.and_eq_true, decide_eq_true_iff, decide_eq_true_iff] at e;rw [e.1, e.2] at h; exact h
theorem zrv : Fn Tryz.prog 34 [mnA mO, btsA ([4, 2, 6].map bt1), sgsA ([3, 4, 3].map wnS)] (.tup [.bool true, iv 0]) := by
 have h := zjC mO ([4, 2, 6].map bt1) ([3, 4, 3].map wnS) (by decide) (by decide);have e := zt7;rw [Bool.and_eq_true, decide_eq_true_iff] at e;rw [e.1, e.2] at h; exact h
theorem ziA {l : List Int} {h : Hb} {w : List Int} (e : wrQ l h w = true) (hl : l.length <= 1000) (hw : w.length <= 1000) (hr : ∀ x ∈ w, -1000 <= x /\ x <= 1000) : Fn Tryz.prog 44 [btsA (l.map bt1), hbA h, yl w] (.bool true) := by
 unfold wrQ at e;have e2 := e;rw [Bool.and_eq_true, decide_eq_true_iff, decide_eq_true_iff] at e2;have c := zcI (l.map bt1) h w (by rw [List.length_map]; omega) hw hr (by rw [e2.2, List.length_map]; omega);rw [e] at c; exact c
set_option maxHeartbeats 4000000 in
set_option maxRecDepth 100000 in
theorem zdw  : Fn Tryz.prog 23 [] (.bool true) := by
 have hb4 : ([4].map bt1)[(0 : Int).toNat]? = some (bt1 4) := rfl;have hf5 : F6[(5 : Int).toNat]? = some [wnS 4, wnS 0] := rfl;have hb1 : ([[6].map bt1, [4, 2].map bt1, [2].map bt1] : List (List Bt))[(1 : Int).toNat]? = some ([4, 2].map bt1) := rfl;refine Fn.go Tryz.func23 Tryz.ntmps23 (fun g w d => ?_);apply yb;refine ye ?_;apply yd;refine zv [1,2,7,8,9,10,11,12,13,14,15,16] [0,0,3,7,15,7,63,127,255,255,511,2047] mo ?_;refine za zd ?_;refine ChM.step rfl rfl rfl (yG (enc := intE) (l := [4]) sl61 ty3 ze3 (by decide) rfl rfl rfl rfl (by decide) (by decide) (fun _ => rfl) rfl) rfl ?_;refine za (yH [4] (by decide) (by decide)) ?_;iterate 2 refine yi ?_
 refine za zA ?_;refine za zrt ?_;iterate 5 refine yi ?_
 refine y4 ?_;apply yj;refine ym zd ?_;refine Ex.stepA (yG (enc := intE) (l := [6, 4, 2, 2]) sl61 ty3 ze3 (by decide) rfl rfl rfl rfl (by decide) (by decide) (fun _ => rfl) rfl) rfl rfl ?_;refine ym (yH [6, 4, 2, 2] (by decide) (by decide)) ?_;refine ym zru ?_;iterate 5 refine ya ?_
 apply yj;refine ym zd ?_;refine Ex.stepA (yG (enc := intE) (l := [4, 2, 6]) sl61 ty3 ze3 (by decide) rfl rfl rfl rfl (by decide) (by decide) (fun _ => rfl) rfl) rfl rfl ?_;refine ym (yH [4, 2, 6] (by decide) (by decide)) ?_;refine Ex.stepA (yG (enc := intE) (l := [3, 4, 3]) sl61 ty3 ze3 (by decide) rfl rfl rfl rfl (by decide) (by decide) (fun _ => rfl) rfl) rfl rfl ?_;refine ym (z8 [3, 4, 3] (by decide) (by decide)) ?_;refine ym zrv ?_;refine zw ?_;apply yd;refine zv [0,33,34,35,36,37,38,39,40,41,42,43,44,45,46,47,48,49,50,51,52,53,54,55,56,57,58,59,60,61,62,63,64,65,66,67,68,69,70,71,72,73,74,75,76,77,78] [0,1,3,7,15,31,63,127,255,511,1023,255,2303,8191,16383,32767,65535,131071,262143,524287,1048575,2097151,4194303,8388607,16777215,33554431,67108863,134217727,33554431,301989887,1073741823,2147483647,4294967295,8589934591,17179869183,34359738367,68719476735,137438953471,274877906943,549755813887,1099511627775,2199023255551,1099511627775,1099511627775,17592186044415,35184372088831,70368744177663] mo ?_;iterate 3 refine yi ?_
 iterate 3 refine ChM.gi ?_
 iterate 2 refine yi ?_
 iterate 3 refine ChM.gi ?_
 refine ChM.gs (yG (enc := intE) (l := [4, 0]) sl61 ty3 ze3 (by decide) rfl rfl rfl rfl (by decide) (by decide) (fun _ => rfl) rfl) ?_;refine ChM.cg (z8 [4, 0] (by decide) (by decide)) ?_;refine ChM.cg (z7 [wnS 4, wnS 0] ([4, 0].map wnS) (by decide)) ?_;iterate 2 refine yi ?_
 iterate 2 refine ChM.gi ?_
 iterate 2 refine yi ?_
 iterate 3 refine ChM.gi ?_
 iterate 2 refine yi ?_
 iterate 3 refine ChM.gi ?_
 refine ChM.gs (yG (enc := intE) (l := [4, 2]) sl61 ty3 ze3 (by decide) rfl rfl rfl rfl (by decide) (by decide) (fun _ => rfl) rfl) ?_;refine ChM.cg (yH [4, 2] (by decide) (by decide)) ?_;refine ChM.cg (zbq ([4, 2].map bt1) ([4, 2].map bt1) (by decide)) ?_;iterate 2 refine yi ?_
 iterate 2 refine ChM.gi ?_
 iterate 2 refine yi ?_
 refine ChM.gi ?_;iterate 2 refine yi ?_
 refine ChM.gs (yG (enc := intE) (l := [6, 2, 4, 6]) sl61 ty3 ze3 (by decide) rfl rfl rfl rfl (by decide) (by decide) (fun _ => rfl) rfl) ?_;refine ChM.cg (yH [6, 2, 4, 6] (by decide) (by decide)) ?_;refine ChM.gi ?_;refine ChM.gs (yG (enc := intE) (l := [3, 4, 4, 3]) sl61 ty3 ze3 (by decide) rfl rfl rfl rfl (by decide) (by decide) (fun _ => rfl) rfl) ?_;refine ChM.cg (ziA zt8 (by decide) (by decide) (by decide)) ?_;iterate 2 refine yi ?_
 refine y4 ?_;apply Ex.nil;refine X.ret ?_;refine yh ?_;all_goals (first | rfl | (simp [F6]; done) | simp)
end Go.Rse
namespace Go.Rse
open Go Go.Proofs
abbrev h0Hb : Hb := ⟨false, false, false⟩
def bt2r : Bt := ⟨⟨2 / gI 2 1, 1 / gI 2 1⟩, true⟩
def rtS (v : Int) : Sg := ⟨2, v, 0, 0, false, 0, false, false, ⟨0, 0, 0, 0⟩, false, 0, 0, 0, 0⟩
def F2r : List (List Sg) := [[rtS 4], [rtS 4, wnS 0]]
def fmQ (b : Bt) (h : Hb) (F : List (List Sg)) : Bool := decide (wcE mO [b] = 0) && decide (fmV mO b h = F)
theorem zt9 : fmQ (bt1 4) h0Hb [[wnS 3]] = true := by kernel_rfl
theorem zua : fmQ bt2r hAll F2r = true := by kernel_rfl
theorem zub : fmQ (bt1 5) hAll [] = true := by kernel_rfl
def noQ (l : List Int) (h : Hb) : Bool := decide (wrE mO (l.map bt1) h = 18) && decide (((wrV mO (l.map bt1) h).length : Int) = 0)
theorem zuc : noQ [6, 2, 4, 6] h0Hb = true := by kernel_rfl
theorem zud : noQ [5] hAll = true := by kernel_rfl
theorem zue : wrQ [6, 2, 4, 6] hAll [3, 4, -3, 3] = true := by kernel_rfl
theorem zuf : wrQ [4, 2, 6] h0Hb [3, 4, 3] = true := by kernel_rfl
theorem zug : wrQ [3, 1, 2] hAll [4, 0, 5, 4] = true := by kernel_rfl
theorem zuh : wrQ [6, 6, 2, 2, 2] h0Hb [3, 3, 4, 4, 4] = true := by kernel_rfl
theorem zlQ {b : Bt} {h : Hb} {F : List (List Sg)} (e : fmQ b h F = true) : Fn Tryz.prog 28 [mnA mO, btA b, hbA h] (.tup [zef F, iv 0]) := by
 have c := zdC mO b h;unfold fmQ at e;rw [Bool.and_eq_true, decide_eq_true_iff, decide_eq_true_iff] at e;rw [e.1, e.2] at c; exact c
theorem zo1 {l : List Int} {h : Hb} (e : noQ l h = true) (hl : l.length <= 1000) : Fn Tryz.prog 43 [btsA (l.map bt1), hbA h] (.bool true) := by
 have c := zdN (l.map bt1) h (by rw [List.length_map]; omega);unfold noQ at e;rw [e] at c; exact c
attribute [local irreducible] Pur yz yA Ex X Fn Imp LeV LeB FnO It yE FnW FnOW FnP FnD
attribute [local irreducible] wcE fmV wrE wrV bt1 wnS rtS yR mMk
set_option maxHeartbeats 8000000 in
set_option maxRecDepth 100000 in
theorem zbT  : Fn Tryz.prog 7 [] (.bool true) := by
 have hb4 : ([4].map bt1)[(0 : Int).toNat]? = some (bt1 4) := rfl;have hb5 : ([5].map bt1)[(0 : Int).toNat]? = some (bt1 5) := rfl;have hf0 : ([[wnS 3]] : List (List Sg))[(0 : Int).toNat]? = some [wnS 3] := rfl;have hf1 : F2r[(1 : Int).toNat]? = some [rtS 4, wnS 0] := rfl;have hT := zbU 2 1 (by decide) (by decide);refine Fn.go Tryz.func7 Tryz.ntmps7 (fun g w d => ?_);apply yb;refine ya ?_;apply yj;refine ym zd ?_;refine Ex.stepA (yG (enc := intE) (l := [4]) sl61 ty3 ze3 (by decide) rfl rfl rfl rfl (by decide) (by decide) (fun _ => rfl) rfl) rfl rfl ?_;refine ym (yH [4] (by decide) (by decide)) ?_;iterate 3 refine ya ?_
 refine ym (zlQ zt9) ?_;iterate 5 refine ya ?_
 apply yj;refine ym zd ?_;refine ym hT ?_;refine ya ?_;refine ym zA ?_;refine ym (zlQ zua) ?_;refine zw ?_;apply yd;refine zv [5,6,26,27,28,29,30,31,32,33,34,35] [0,0,3,7,15,7,63,127,255,255,511,2047] mo ?_;refine za zd ?_;refine ChM.step rfl rfl rfl (yG (enc := intE) (l := [5]) sl61 ty3 ze3 (by decide) rfl rfl rfl rfl (by decide) (by decide) (fun _ => rfl) rfl) rfl ?_;refine za (yH [5] (by decide) (by decide)) ?_;iterate 2 refine yi ?_
 refine za zA ?_;refine za (zlQ zub) ?_;iterate 5 refine yi ?_
 refine y4 ?_;apply Ex.nil;iterate 2 apply yd
 refine zv [36,37,38,39,40,41,42,43,44,45,46,47,48,49,50,51,52,53,54,55,56,57,58,59,60,61,62,63,64,65,66,67,68,69,70,71,72,73,74,75,76] [0,1,3,7,15,31,63,127,255,511,1023,255,2303,8191,16383,32767,65535,131071,262143,524287,1048575,2097151,4194303,8388607,16777215,33554431,67108863,134217727,268435455,536870911,1073741823,2147483647,4294967295,8589934591,17179869183,34359738367,68719476735,137438953471,274877906943,549755813887,1099511627775] mo ?_;iterate 3 refine yi ?_
 iterate 3 refine ChM.gi ?_
 iterate 2 refine yi ?_
 iterate 3 refine ChM.gi ?_
 refine ChM.gs (yG (enc := intE) (l := [3]) sl61 ty3 ze3 (by decide) rfl rfl rfl rfl (by decide) (by decide) (fun _ => rfl) rfl) ?_;refine ChM.cg (z8 [3] (by decide) (by decide)) ?_;refine ChM.cg (z7 [wnS 3] ([3].map wnS) (by decide)) ?_;refine ChM.gi ?_;iterate 2 refine yi ?_
 iterate 2 refine ChM.gi ?_
 iterate 2 refine yi ?_
 iterate 3 refine ChM.gi ?_
 iterate 2 refine yi ?_
 iterate 5 refine ChM.gi ?_
 iterate 2 refine yi ?_
 iterate 2 refine ChM.gi ?_
 iterate 2 refine yi ?_
 iterate 3 refine ChM.gi ?_
 refine yi ?_;refine y4 ?_;apply Ex.nil;refine yk rfl ?_ ?_<;>intro hc1
 ·simp [F2r] at hc1
 apply yf;apply yb;refine Ex.stepA (yG (enc := intE) (l := [6, 2, 4, 6]) sl61 ty3 ze3 (by decide) rfl rfl rfl rfl (by decide) (by decide) (fun _ => rfl) rfl) rfl rfl ?_;refine ym (yH [6, 2, 4, 6] (by decide) (by decide)) ?_;refine ya ?_;refine ym (zo1 zuc (by decide)) ?_;refine ya ?_;refine yI rfl rfl rfl ?_;refine Ex.stepA (yG (enc := intE) (l := [6, 2, 4, 6]) sl61 ty3 ze3 (by decide) rfl rfl rfl rfl (by decide) (by decide) (fun _ => rfl) rfl) rfl rfl ?_;refine yI rfl rfl rfl ?_;refine ym (yH [6, 2, 4, 6] (by decide) (by decide)) ?_;refine yI rfl rfl rfl ?_;refine ym zA ?_;refine yI rfl rfl rfl ?_;refine Ex.stepA (yG (enc := intE) (l := [3, 4, -3, 3]) sl61 ty3 ze3 (by decide) rfl rfl rfl rfl (by decide) (by decide) (fun _ => rfl) rfl) rfl rfl ?_;refine yI rfl rfl rfl ?_;refine ym (ziA zue (by decide) (by decide) (by decide)) ?_;iterate 2 refine ya ?_
 refine yI rfl rfl rfl ?_;refine Ex.stepA (yG (enc := intE) (l := [4, 2, 6]) sl61 ty3 ze3 (by decide) rfl rfl rfl rfl (by decide) (by decide) (fun _ => rfl) rfl) rfl rfl ?_;refine yI rfl rfl rfl ?_;refine ym (yH [4, 2, 6] (by decide) (by decide)) ?_;refine yI rfl rfl rfl ?_;refine ya ?_;refine yI rfl rfl rfl ?_;refine Ex.stepA (yG (enc := intE) (l := [3, 4, 3]) sl61 ty3 ze3 (by decide) rfl rfl rfl rfl (by decide) (by decide) (fun _ => rfl) rfl) rfl rfl ?_;refine yI rfl rfl rfl ?_;refine ym (ziA zuf (by decide) (by decide) (by decide)) ?_;iterate 2 refine ya ?_
 apply yj;refine ym zdw ?_;refine ya ?_;refine yI rfl rfl rfl ?_;iterate 3 refine ya ?_
 refine yI rfl rfl rfl ?_;refine Ex.stepA (yG (enc := intE) (l := [3, 1, 2]) sl61 ty3 ze3 (by decide) rfl rfl rfl rfl (by decide) (by decide) (fun _ => rfl) rfl) rfl rfl ?_;refine yI rfl rfl rfl ?_;refine ym (yH [3, 1, 2] (by decide) (by decide)) ?_;refine yI rfl rfl rfl ?_;refine ym zA ?_;refine yI rfl rfl rfl ?_;refine Ex.stepA (yG (enc := intE) (l := [4, 0, 5, 4]) sl61 ty3 ze3 (by decide) rfl rfl rfl rfl (by decide) (by decide) (fun _ => rfl) rfl) rfl rfl ?_;refine yI rfl rfl rfl ?_;refine ym (ziA zug (by decide) (by decide) (by decide)) ?_;iterate 2 refine ya ?_
 refine yI rfl rfl rfl ?_;refine Ex.stepA (yG (enc := intE) (l := [5]) sl61 ty3 ze3 (by decide) rfl rfl rfl rfl (by decide) (by decide) (fun _ => rfl) rfl) rfl rfl ?_;refine yI rfl rfl rfl ?_;refine ym (yH [5] (by decide) (by decide)) ?_;refine yI rfl rfl rfl ?_;refine ym zA ?_;refine yI rfl rfl rfl ?_;refine ym (zo1 zud (by decide)) ?_;iterate 2 refine ya ?_
 refine yI rfl rfl rfl ?_;refine Ex.stepA (yG (enc := intE) (l := [6, 6, 2, 2, 2]) sl61 ty3 ze3 (by decide) rfl rfl rfl rfl (by decide) (by decide) (fun _ => rfl) rfl) rfl rfl ?_;refine yI rfl rfl rfl ?_;refine ym (yH [6, 6, 2, 2, 2] (by decide) (by decide)) ?_;refine yI rfl rfl rfl ?_;refine ya ?_;refine yI rfl rfl rfl ?_;refine Ex.stepA (yG (enc := intE) (l := [3, 3, 4, 4, 4]) sl61 ty3 ze3 (by decide) rfl rfl rfl rfl (by decide) (by decide) (fun _ => rfl) rfl) rfl rfl ?_;refine yI rfl rfl rfl ?_;refine ym (ziA zuh (by decide) (by decide) (by decide)) ?_;refine yg ?_;refine X.ret ?_;refine yh ?_;all_goals (first | rfl | simp)
end Go.Rse
