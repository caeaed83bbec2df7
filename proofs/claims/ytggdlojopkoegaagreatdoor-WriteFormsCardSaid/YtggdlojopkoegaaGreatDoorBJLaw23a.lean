/-
  Walks: what the statements on writing share (circle, all, own, same, beats, run, writes, none, the examples of awake).
-/
import Derived.Test.YtggdlojopkoegaaGreatDoorBJWri5
import Derived.Test.YtggdlojopkoegaaGreatDoorBJLev6
import Derived.Test.YtggdlojopkoegaaGreatDoorBJSpell1
import Derived.Test.YtggdlojopkoegaaGreatDoorBJSlc2
import Derived.Test.YtggdlojopkoegaaGreatDoorBLogC
import Derived.Test.YtggdlojopkoegaaGreatDoorBJSortF
set_option linter.unusedSimpArgs false
set_option linter.unusedVariables false
namespace Go.Rse
open Go Go.Proofs
abbrev mO : Mn := ⟨2, 2, 3, 2⟩
abbrev hAll : Hb := ⟨true, true, true⟩
def bt1 (n : Int) : Bt := ⟨⟨n / gI n 1, 1 / gI n 1⟩, false⟩
def wnS (x : Int) : Sg := if x = 0 then ⟨3, 0, 0, 0, false, 0, false, false, ⟨0, 0, 0, 0⟩, false, 0, 0, 0, 0⟩ else if x < 0 then ⟨1, -x, 4, 0, true, 0, false, false, ⟨0, 0, 0, 0⟩, false, 0, 0, 0, 0⟩ else ⟨1, x, 4, 0, false, 0, false, false, ⟨0, 0, 0, 0⟩, false, 0, 0, 0, 0⟩
theorem zuM {l : List Int} {k : Nat} {x : Int} (h : l[k]? = some x) : (l.take k).map bt1 ++ [bt1 x] = (l.take (k + 1)).map bt1 := by
 rw [List.take_add_one, h]; simp
theorem zuN {l : List Int} {k : Nat} {x : Int} (h : l[k]? = some x) : (l.take k).map wnS ++ [wnS x] = (l.take (k + 1)).map wnS := by
 rw [List.take_add_one, h]; simp
theorem zmi {α β : Type} (f : α -> β) (l : List α) (k : Nat) : ((l.take k).map f).length <= l.length := by rw [List.length_map, List.length_take]; omega
theorem zpA {α : Type} {l : List α} {k : Nat} {x : α} (h : l[k]? = some x) : l.take k ++ [x] = l.take (k + 1) := by rw [List.take_add_one, h]; rfl
def F6 : List (List Sg) := [[wnS 3], [wnS 3, wnS 0], [wnS (-3)], [wnS (-3), wnS 0], [wnS 4], [wnS 4, wnS 0]]
theorem zuO : (decide (wcE mO [bt1 4] = 0) && decide (fmV mO (bt1 4) hAll = F6)) = true := by kernel_rfl
theorem zuP : (decide (blE mO ([6, 4, 2, 2].map bt1) = 0) && decide (blV mO ([6, 4, 2, 2].map bt1) = [[6].map bt1, [4, 2].map bt1, [2].map bt1])) = true := by kernel_rfl
theorem zuQ : (decide (wisE mO ([4, 2, 6].map bt1) ([3, 4, 3].map wnS) = 0) && wisB mO ([4, 2, 6].map bt1) ([3, 4, 3].map wnS)) = true := by kernel_rfl
def wrQ (l : List Int) (h : Hb) (w : List Int) : Bool := decide (wrE mO (l.map bt1) h = 0) && decide (wrV mO (l.map bt1) h = w.map wnS)
theorem zuR : wrQ [6, 2, 4, 6] ⟨false, false, true⟩ [3, 4, 4, 3] = true := by kernel_rfl
attribute [local irreducible] Pur yD yF Ex X Fn Imp LeV LeB FnO It yH FnW FnOW FnP FnD
attribute [local irreducible] wcE fmV blE blV wisE wisB wrE wrV bt1 wnS
theorem zK  : Fn Tryz.prog 38 [] (mnA mO) := by
 refine Fn.go Tryz.func38 Tryz.ntmps38 (fun g w d => ?_);apply yb;refine yC ?_;apply yk;refine ya ?_;refine Ex.mo ?_;apply Ex.nil;refine X.ret ?_;refine RetQ.ret (.one (.cellA rfl rfl rfl rfl ty23 (LeV.eq ?_)));all_goals (first | rfl | (simp_all; done))
theorem zeq  : Fn Tryz.prog 41 [] (hbA hAll) := by
 refine Fn.go Tryz.func41 Tryz.ntmps41 (fun g w d => ?_);apply yb;refine yC ?_;apply yk;refine ya ?_;refine Ex.mo ?_;apply Ex.nil;refine X.ret ?_;refine RetQ.ret (.one (.cellA rfl rfl rfl rfl ty32 (LeV.eq ?_)));all_goals (first | rfl | (simp_all; done))
theorem zer (l : List Bt) (hl : l.length <= 4000000000) : Fn Tryz.prog 24 [btsA l] (btsA l) := by
 refine Fn.go Tryz.func24 Tryz.ntmps24 (fun g w d => ?_);apply yb;refine ya ?_;apply yk;refine yO btE [] ?_;refine ya ?_;refine Ex.mo ?_;refine yd ?_;refine X.ret ?_;refine RetQ.imp (Imp.freeze (k := 3) rfl) ?_;refine yh ?_;all_goals (rfl)
theorem zbA (a b : List Bt) (hl : a.length <= 4000000000) : Fn Tryz.prog 27 [btsA a, btsA b] (.bool (decide (a = b))) := by
 refine Fn.go Tryz.func27 Tryz.ntmps27 (fun g w d => ?_);apply yb;refine yd ?_;apply ye;apply yb;refine zy ?_;refine yj rfl ?_ ?_<;>intro hc1
 ·have hD : decide (a = b) = false := by rw [decide_eq_false_iff_not]; intro h; subst h; exact hc1 rfl
  apply yb;refine yd ?_;refine X.ret ?_;refine yh ?_;all_goals (rw [hD])
 have hlen : a.length = b.length := by omega
 apply yf;apply ye;apply yb;refine yd ?_;apply X.block
 refine zb (ι := Nat) (fun (k : Nat) => [(0, btsA a), (1, btsA b), (5, iv (k : Int))]) (fun (k : Nat) => []) (fun (k : Nat) => k <= a.length /\ a.take k = b.take k) (fun (k : Nat) => a.length - k) 0 (fun k hk => ?_) (hJ := by
  exact ⟨by omega, by simp⟩) (h0 := by
  exact yp)
 obtain ⟨hk1, hk2⟩ := hk;apply ye;apply yb;refine zx ?_;refine yj rfl ?_ ?_<;>intro hc2
 ·obtain ⟨x, hx⟩ : ∃ x, a[k]? = some x := ⟨_, lgg (by omega)⟩;have hx2 : a[(k : Int).toNat]? = some x := by simpa using hx
  obtain ⟨y, hy⟩ : ∃ y, b[k]? = some y := ⟨_, lgg (by omega)⟩;have hy2 : b[(k : Int).toNat]? = some y := by simpa using hy
  apply yf;apply ye;apply X.block;apply ye;refine zo [17,18,19,20,21,22,23,24,25] [0,0,3,7,0,0,48,112,255] mo ?_;iterate 8 refine yi ?_
  refine yi ?_ (hs := by exact zdr (zok _ _) inferInstance TyK.h rfl rfl rfl rfl rfl);refine yR ?_;apply Ex.nil;refine yj rfl ?_ ?_<;>intro hc3
  ·have hD : decide (a = b) = false := by rw [decide_eq_false_iff_not]; intro h; subst h; rw [hx] at hy; injection hy with hy; exact (by simpa using hc3 : ¬ x = y) hy
   apply yb;refine yd ?_;refine X.ret ?_;refine yh ?_;all_goals (rw [hD])
  apply yf;apply yc;refine yo ?_
  refine yJ (k + 1) (hJ := by
   exact ⟨by omega, by rw [← zpA hx, ← zpA hy, hk2, (by simpa using hc3 : x = y)]⟩) (hI := yp)
 ·have hD : decide (a = b) = true := by
   have h1 : k = a.length := by omega
   rw [decide_eq_true_iff]; subst h1; rw [List.take_length, hlen, List.take_length] at hk2; exact hk2
  apply X.exit;apply yb;refine yd ?_;refine X.ret ?_;refine yh ?_;all_goals (rw [hD])
theorem zB (l : List Int) (hl : l.length <= 1000) (hr : ∀ x ∈ l, 0 <= x /\ x <= 1000) : Fn Tryz.prog 39 [yl l] (btsA (l.map bt1)) := by
 have hz0 : [] = (l.take 0).map bt1 := by simp
 refine Fn.go Tryz.func39 Tryz.ntmps39 (fun g w d => ?_);apply yb;refine ya ?_;apply yk;refine yd ?_;iterate 2 apply ye
 refine X.imp (yZ btE 42 3 3 30 rfl rfl) ?_;apply yc;refine yd ?_;apply X.block
 refine zb (ι := Nat) (fun (k : Nat) => [(0, yl l), (3, .own 30), (4, iv (k : Int))]) (fun (k : Nat) => [(30, .row btE ((l.take k).map bt1) 42 3)]) (fun (k : Nat) => k <= l.length) (fun (k : Nat) => l.length - k) 0 (fun k hk => ?_) (h0 := by
  exact yp)
 apply ye;apply yb;refine zx ?_;refine yj rfl ?_ ?_<;>intro hc1
 ·obtain ⟨x, hx⟩ : ∃ x, l[k]? = some x := ⟨_, lgg (by omega)⟩;have hx2 : l[(k : Int).toNat]? = some x := by simpa using hx
  have hxr := hr x (List.mem_of_getElem? hx);have hst := zuM hx;have hst2 : (l.take k).map bt1 ++ [⟨⟨x / gI x 1, 1 / gI x 1⟩, false⟩] = (l.take (k + 1)).map bt1 := by rw [← hst]; unfold bt1; rfl
  have hlt := zmi bt1 l k;apply yf;apply ye;apply X.block;apply yc;iterate 5 refine ya ?_
  refine ym (zhd x 1 (by omega) (by omega)) ?_;refine ya ?_;refine yO btE [⟨⟨x / gI x 1, 1 / gI x 1⟩, false⟩] ?_;refine Ex.mo ?_;refine yd ?_;apply yc;refine yo ?_;refine yJ (k + 1) (hI := yp)
 ·obtain rfl : k = l.length := by omega
  have hV : (l.take l.length).map bt1 = l.map bt1 := by rw [List.take_length]
  apply X.exit;apply yb;refine yg ?_;refine X.ret ?_;refine RetQ.imp (Imp.freeze (k := 30) rfl) ?_;refine yh ?_;all_goals (exact congrArg (fun z => btsA z) hV)
set_option maxHeartbeats 1000000 in
theorem zaQ (l : List Int) (hl : l.length <= 1000) (hr : ∀ x ∈ l, -1000 <= x /\ x <= 1000) : Fn Tryz.prog 42 [yl l] (sgsA (l.map wnS)) := by
 have hz0 : [] = (l.take 0).map wnS := by simp
 refine Fn.go Tryz.func42 Tryz.ntmps42 (fun g w d => ?_);apply yb;refine ya ?_;apply yk;refine yd ?_;iterate 2 apply ye
 refine X.imp (yZ sgE 76 17 3 30 rfl rfl) ?_;apply yc;refine yd ?_;apply X.block
 refine zb (ι := Nat) (fun (k : Nat) => [(0, yl l), (3, .own 30), (4, iv (k : Int))]) (fun (k : Nat) => [(30, .row sgE ((l.take k).map wnS) 76 17)]) (fun (k : Nat) => k <= l.length) (fun (k : Nat) => l.length - k) 0 (fun k hk => ?_) (h0 := by
  exact yp)
 apply ye;apply yb;refine zx ?_;refine yj rfl ?_ ?_<;>intro hc1
 ·obtain ⟨x, hx⟩ : ∃ x, l[k]? = some x := ⟨_, lgg (by omega)⟩;have hx2 : l[(k : Int).toNat]? = some x := by simpa using hx
  have hxr := hr x (List.mem_of_getElem? hx);have hst := zuN hx;have hlt := zmi wnS l k;apply yf;apply ye;iterate 2 apply X.block
  apply yb;iterate 5 refine ya ?_
  refine yd ?_;refine yj rfl ?_ ?_<;>intro hc2
  ·have hw : wnS x = ⟨3, 0, 0, 0, false, 0, false, false, ⟨0, 0, 0, 0⟩, false, 0, 0, 0, 0⟩ := by unfold wnS; rw [if_pos hc2]
   rw [hw] at hst;apply yc;(iterate 2 refine ya ?_);refine yO sgE [⟨3, 0, 0, 0, false, 0, false, false, ⟨0, 0, 0, 0⟩, false, 0, 0, 0, 0⟩] ?_;refine Ex.mo ?_;refine yd ?_;apply yc;refine yo ?_;refine yJ (k + 1) (hI := yp)
  ·have hst2 := hst;apply yb;(iterate 5 refine ya ?_);refine yd ?_;refine yj rfl ?_ ?_<;>intro hc3
   ·have hw : wnS x = ⟨1, -x, 4, 0, true, 0, false, false, ⟨0, 0, 0, 0⟩, false, 0, 0, 0, 0⟩ := by unfold wnS; rw [if_neg hc2, if_pos hc3]
    rw [hw] at hst;apply yc;(iterate 7 refine ya ?_);refine yO sgE [⟨1, -x, 4, 0, true, 0, false, false, ⟨0, 0, 0, 0⟩, false, 0, 0, 0, 0⟩] ?_;refine Ex.mo ?_;refine yd ?_;apply yc;refine yo ?_;refine yJ (k + 1) (hI := yp)
   ·have hw : wnS x = ⟨1, x, 4, 0, false, 0, false, false, ⟨0, 0, 0, 0⟩, false, 0, 0, 0, 0⟩ := by unfold wnS; rw [if_neg hc2, if_neg (show ¬ x < 0 by omega)]
    rw [hw] at hst;apply yc;(iterate 6 refine ya ?_);refine yO sgE [⟨1, x, 4, 0, false, 0, false, false, ⟨0, 0, 0, 0⟩, false, 0, 0, 0, 0⟩] ?_;refine Ex.mo ?_;refine yd ?_;apply yc;refine yo ?_;refine yJ (k + 1) (hI := yp)
 ·obtain rfl : k = l.length := by omega
  have hV : (l.take l.length).map wnS = l.map wnS := by rw [List.take_length]
  apply X.exit;apply yb;refine yg ?_;refine X.ret ?_;refine RetQ.imp (Imp.freeze (k := 30) rfl) ?_;refine yh ?_;all_goals (exact congrArg (fun z => sgsA z) hV)
theorem zc0 (l : List Bt) (h : Hb) (ws : List Int) (hl : l.length <= 4000000000) (hw : ws.length <= 1000) (hr : ∀ x ∈ ws, -1000 <= x /\ x <= 1000) (hv : (wrV mO l h).length <= 4000000000) : Fn Tryz.prog 44 [btsA l, hbA h, yl ws] (.bool (decide (wrE mO l h = 0) && decide (wrV mO l h = ws.map wnS))) := by
 refine Fn.go Tryz.func44 Tryz.ntmps44 (fun g w d => ?_);apply yb;refine yA ?_;refine yd ?_;apply ye;refine zo [7,8,9,10,11,12,13,14,15] [0,0,0,7,15,31,31,63,255] mo ?_;refine y8 zK ?_;iterate 2 refine yi ?_
 refine y8 (zhl mO l h hl) ?_;iterate 5 refine yi ?_
 refine yR ?_;apply yk;iterate 2 refine ya ?_
 refine ExF.at 2 ?_;refine yG ?_;iterate 2 refine ExF.gi ?_
 refine ExF.cg (zaQ ws hw hr) ?_;refine ExF.cg (zaa (wrV mO l h) (ws.map wnS) hv) ?_;refine yE ?_;refine yg ?_;refine X.ret ?_;refine yh ?_;all_goals (first | rfl | (simp_all; done))
theorem zrV : Fn Tryz.prog 28 [mnA mO, btA (bt1 4), hbA hAll] (.tup [zcO F6, iv 0]) := by
 have h := zdT mO (bt1 4) hAll;have e := zuO;rw [Bool.and_eq_true, decide_eq_true_iff, decide_eq_true_iff] at e;rw [e.1, e.2] at h; exact h
theorem zrW : Fn Tryz.prog 52 [mnA mO, btsA ([6, 4, 2, 2].map bt1)] (.tup [blsA [[6].map bt1, [4, 2].map bt1, [2].map bt1], iv 0]) := by
 have h := zgF mO ([6, 4, 2, 2].map bt1) (by decide);have e := zuP;rw [Bool.and_eq_true, decide_eq_true_iff, decide_eq_true_iff] at e;rw [e.1, e.2] at h; exact h
theorem zrX : Fn Tryz.prog 34 [mnA mO, btsA ([4, 2, 6].map bt1), sgsA ([3, 4, 3].map wnS)] (.tup [.bool true, iv 0]) := by
 have h := zj1 mO ([4, 2, 6].map bt1) ([3, 4, 3].map wnS) (by decide) (by decide);have e := zuQ;rw [Bool.and_eq_true, decide_eq_true_iff] at e;rw [e.1, e.2] at h; exact h
theorem zrY {l : List Int} {h : Hb} {w : List Int} (e : wrQ l h w = true) (hl : l.length <= 1000) (hw : w.length <= 1000) (hr : ∀ x ∈ w, -1000 <= x /\ x <= 1000) : Fn Tryz.prog 44 [btsA (l.map bt1), hbA h, yl w] (.bool true) := by
 unfold wrQ at e;have e2 := e;rw [Bool.and_eq_true, decide_eq_true_iff, decide_eq_true_iff] at e2;have c := zc0 (l.map bt1) h w (by rw [List.length_map]; omega) hw hr (by rw [e2.2, List.length_map]; omega);rw [e] at c; exact c
set_option maxHeartbeats 4000000 in
set_option maxRecDepth 100000 in
theorem zbm  : Fn Tryz.prog 23 [] (.bool true) := by
 have hb4 : ([4].map bt1)[(0 : Int).toNat]? = some (bt1 4) := rfl;have hf5 : F6[(5 : Int).toNat]? = some [wnS 4, wnS 0] := rfl;have hb1 : ([[6].map bt1, [4, 2].map bt1, [2].map bt1] : List (List Bt))[(1 : Int).toNat]? = some ([4, 2].map bt1) := rfl;refine Fn.go Tryz.func23 Tryz.ntmps23 (fun g w d => ?_);apply yb;refine yd ?_;apply ye;refine zo [1,2,7,8,9,10,11,12,13,14,15,16] [0,0,3,7,15,7,63,127,255,255,511,2047] mo ?_;refine y8 zK ?_;refine ChM.step rfl rfl rfl (yT (enc := intE) (l := [4]) sl61 ty3 ze3 (by decide) rfl rfl rfl rfl (by decide) (by decide) (fun _ => rfl) rfl) rfl ?_;refine y8 (zB [4] (by decide) (by decide)) ?_;iterate 2 refine yi ?_
 refine y8 zeq ?_;refine y8 zrV ?_;iterate 5 refine yi ?_
 refine yR ?_;apply yk;refine ym zK ?_;refine Ex.stepA (yT (enc := intE) (l := [6, 4, 2, 2]) sl61 ty3 ze3 (by decide) rfl rfl rfl rfl (by decide) (by decide) (fun _ => rfl) rfl) rfl rfl ?_;refine ym (zB [6, 4, 2, 2] (by decide) (by decide)) ?_;refine ym zrW ?_;iterate 5 refine ya ?_
 apply yk;refine ym zK ?_;refine Ex.stepA (yT (enc := intE) (l := [4, 2, 6]) sl61 ty3 ze3 (by decide) rfl rfl rfl rfl (by decide) (by decide) (fun _ => rfl) rfl) rfl rfl ?_;refine ym (zB [4, 2, 6] (by decide) (by decide)) ?_;refine Ex.stepA (yT (enc := intE) (l := [3, 4, 3]) sl61 ty3 ze3 (by decide) rfl rfl rfl rfl (by decide) (by decide) (fun _ => rfl) rfl) rfl rfl ?_;refine ym (zaQ [3, 4, 3] (by decide) (by decide)) ?_;refine ym zrX ?_;refine zy ?_;apply ye;refine zo [0,33,34,35,36,37,38,39,40,41,42,43,44,45,46,47,48,49,50,51,52,53,54,55,56,57,58,59,60,61,62,63,64,65,66,67,68,69,70,71,72,73,74,75,76,77,78] [0,1,3,7,15,31,63,127,255,511,1023,255,2303,8191,16383,32767,65535,131071,262143,524287,1048575,2097151,4194303,8388607,16777215,33554431,67108863,134217727,33554431,301989887,1073741823,2147483647,4294967295,8589934591,17179869183,34359738367,68719476735,137438953471,274877906943,549755813887,1099511627775,2199023255551,1099511627775,1099511627775,17592186044415,35184372088831,70368744177663] mo ?_;iterate 3 refine yi ?_
 iterate 3 refine ChM.gi ?_
 iterate 2 refine yi ?_
 iterate 3 refine ChM.gi ?_
 refine ChM.gs (yT (enc := intE) (l := [4, 0]) sl61 ty3 ze3 (by decide) rfl rfl rfl rfl (by decide) (by decide) (fun _ => rfl) rfl) ?_;refine ChM.cg (zaQ [4, 0] (by decide) (by decide)) ?_;refine ChM.cg (zaa [wnS 4, wnS 0] ([4, 0].map wnS) (by decide)) ?_;iterate 2 refine yi ?_
 iterate 2 refine ChM.gi ?_
 iterate 2 refine yi ?_
 iterate 3 refine ChM.gi ?_
 iterate 2 refine yi ?_
 iterate 3 refine ChM.gi ?_
 refine ChM.gs (yT (enc := intE) (l := [4, 2]) sl61 ty3 ze3 (by decide) rfl rfl rfl rfl (by decide) (by decide) (fun _ => rfl) rfl) ?_;refine ChM.cg (zB [4, 2] (by decide) (by decide)) ?_;refine ChM.cg (zbA ([4, 2].map bt1) ([4, 2].map bt1) (by decide)) ?_;iterate 2 refine yi ?_
 iterate 2 refine ChM.gi ?_
 iterate 2 refine yi ?_
 refine ChM.gi ?_;iterate 2 refine yi ?_
 refine ChM.gs (yT (enc := intE) (l := [6, 2, 4, 6]) sl61 ty3 ze3 (by decide) rfl rfl rfl rfl (by decide) (by decide) (fun _ => rfl) rfl) ?_;refine ChM.cg (zB [6, 2, 4, 6] (by decide) (by decide)) ?_;refine ChM.gi ?_;refine ChM.gs (yT (enc := intE) (l := [3, 4, 4, 3]) sl61 ty3 ze3 (by decide) rfl rfl rfl rfl (by decide) (by decide) (fun _ => rfl) rfl) ?_;refine ChM.cg (zrY zuR (by decide) (by decide) (by decide)) ?_;iterate 2 refine yi ?_
 refine yR ?_;apply Ex.nil;refine X.ret ?_;refine yh ?_;all_goals (first | rfl | (simp [F6]; done) | simp)
end Go.Rse
namespace Go.Rse
open Go Go.Proofs
def fE (m : Mn) (v : Int) : Int := (yx m v).N * 8 / (yx m v).D
def feOk (m : Mn) (v : Int) : Bool := decide ((yx m v).N * 8 = fE m v * (yx m v).D) && decide (1 <= fE m v) && decide (fE m v <= 648) && decide (ckT (yx m v) = 0) && decide ((yx m v).D <= 8) && decide ((yx m v).N <= 81) && decide (1 <= (yx m v).N) &&
 (decide (v = 8) || decide (fE m v = m.p v * fE m (v + 1))) && (decide (¬ v = 8) || decide (fE m v = 1)) && (decide (¬ v = 1) || decide (128 <= fE m v)) && decide (m.p v <= 3)
theorem zmj : zfm feOk = true := by kernel_rfl
structure FE (m : Mn) (v : Int) : Prop where
 e : (yx m v).N * 8 = fE m v * (yx m v).D
 b1 : 1 <= fE m v
 b2 : fE m v <= 648
 ck : ckT (yx m v) = 0
 d : (yx m v).D <= 8
 n : (yx m v).N <= 81
 n1 : 1 <= (yx m v).N
 p : v = 8 \/ fE m v = m.p v * fE m (v + 1)
 l : ¬ v = 8 \/ fE m v = 1
 g : ¬ v = 1 \/ 128 <= fE m v
 p3 : m.p v <= 3
theorem zrZ {m : Mn} {v : Int} (hm : ckM m = 0) (h1 : 1 <= v) (h8 : v <= 8) : FE m v := by
 have h := zbv zmj hm h1 h8;unfold feOk at h;simp only [Bool.and_eq_true, Bool.or_eq_true, decide_eq_true_eq] at h;obtain ⟨⟨⟨⟨⟨⟨⟨⟨⟨⟨a, b⟩, c⟩, d⟩, e⟩, f⟩, g⟩, i⟩, j⟩, k⟩, l⟩ := h;exact ⟨a, b, c, d, e, f, g, i, j, k, l⟩
end Go.Rse
namespace Go.Rse
open Go Go.Proofs Go.RowKit
section
variable {P : Program} {C : Ctx} {st : St} {ty : TypeId}
end
attribute [local irreducible] Pur yD yF Ex X Fn Imp LeV LeB FnO It yH
attribute [local irreducible] yx sumE sumV
end Go.Rse
namespace Go.Rse
open Go Go.Proofs
attribute [local irreducible] Pur yD yF Ex X Fn Imp LeV LeB FnO It yH
attribute [local irreducible] yx durT mulV mulE subV subE
end Go.Rse
namespace Go.Rse
end Go.Rse
namespace Go.Rse
open Go Go.Proofs Go.Sort
def ltT (s t : Tm) : Prop := s.N * t.D < t.N * s.D
instance (s t : Tm) : Decidable (ltT s t) := inferInstanceAs (Decidable (_ < _))
theorem znK (s : Tm) : ¬ ltT s s := by unfold ltT; omega
end Go.Rse
namespace Go.Rse
open Go Go.Proofs
attribute [local irreducible] Pur yD yF Ex X Fn Imp LeV LeB FnO It yH
attribute [local irreducible] yx durT mulV wdL
end Go.Rse
namespace Go.Rse
open Go Go.Proofs Go.RowKit
attribute [local irreducible] Pur yD yF Ex X Fn Imp LeV LeB FnO It yH
def zpB (l L : List Tm) : Bool := (l.all fun x => decide (ckT x = 0) && decide (x ∈ L)) && (L.all fun x => decide (x ∈ l)) && decide (L.Pairwise ltT)
attribute [local irreducible] wdL
end Go.Rse
namespace Go.Rse
open Go Go.Proofs Go.RowKit
attribute [local irreducible] Pur yD yF Ex X Fn Imp LeV LeB FnO It yH
def zbB (X : List Sp) (s : Sp) (t : Tm) (L : List Tm) (q : Nat) : List Sp := if t ∈ L.take q then X ++ [s] else X
theorem zqs (X : List Sp) (s : Sp) (t : Tm) (L : List Tm) : X = zbB X s t L 0 := by simp [zbB]
theorem zmk {X : List Sp} {s : Sp} {t : Tm} {L : List Tm} {q : Nat} {u : Tm} (h : L[q]? = some u) (e : u = t) (hp : L.Pairwise ltT) : zbB X s t L q ++ [s] = zbB X s t L (q + 1) := by
 subst e
 have hn : ¬ u ∈ L.take q := fun hm => by
  obtain ⟨i, hi⟩ := List.mem_iff_getElem?.1 hm;rw [List.getElem?_take] at hi;split at hi
  ·rename_i hiq;have h1 := List.getElem?_eq_some_iff.1 hi;have h2 := List.getElem?_eq_some_iff.1 h;have := List.pairwise_iff_getElem.1 hp i q h1.1 h2.1 hiq;rw [h1.2, h2.2] at this;exact znK _ this
  ·simp at hi
 unfold zbB;rw [if_neg hn, if_pos (by rw [List.take_add_one, h]; simp)]
theorem znL {X : List Sp} {s : Sp} {t : Tm} {L : List Tm} {q : Nat} {u : Tm} (h : L[q]? = some u) (e : ¬ u = t) : zbB X s t L q = zbB X s t L (q + 1) := by
 unfold zbB
 have : t ∈ L.take (q + 1) ↔ t ∈ L.take q := by
  rw [List.take_add_one, h];simp only [Option.toList_some, List.mem_append, List.mem_singleton];exact ⟨fun h => h.elim id fun h => absurd h.symm e, .inl⟩
 by_cases h2 : t ∈ L.take q
 ·rw [if_pos h2, if_pos (this.2 h2)]
 ·rw [if_neg h2, if_neg (fun h => h2 (this.1 h))]
theorem zml (X : List Sp) (s : Sp) (t : Tm) (L : List Tm) (q : Nat) : (zbB X s t L q).length <= X.length + 1 := by
 unfold zbB; split <;> simp
theorem zmm {m : Mn} {v : Int} {t : Tm} {i : Nat} {L : List Tm} (hL : ∀ x, x ∈ L ↔ x ∈ wdL m v (1 + (i : Int)).toNat) (X : List Sp) : zbB (X ++ alI m t v (1 + i)) (spOf v (1 + (i : Int))) t L L.length = X ++ alI m t v (1 + (i + 1)) := by
 rw [show (1 + (i : Int)).toNat = 1 + i by omega] at hL;unfold zbB;rw [List.take_length];by_cases h : t ∈ L
 ·rw [if_pos h, List.append_assoc];have := zkH (m := m) (t := t) (v := v) (n := 1 + i) (by omega) ((hL t).1 h) X;rw [List.append_assoc] at this;rw [show ((1 + i : Nat) : Int) = 1 + (i : Int) by omega] at this;exact this
 ·rw [if_neg h];exact zjU (m := m) (t := t) (v := v) (n := 1 + i) (.inr fun h2 => h ((hL t).2 h2)) X
attribute [local irreducible] yx durT mulV wdL allE bthE alO alI gI zbB
end Go.Rse
