/-
  Walks.
-/
import Derived.Test.YtkpbljifckjeoaaGreatDoorYJWrs6
set_option linter.unusedSimpArgs false
set_option linter.unusedVariables false
namespace Go.Rse
open Go Go.Proofs
abbrev mOh : Mn := ⟨2, 2, 3, 2⟩
abbrev mCe : Mn := ⟨2, 2, 2, 2⟩
def btT (t : Tm) : Bt := ⟨t, false⟩
def hbM (n : Int) : Hb := ⟨decide (4 <= n), decide (2 <= Int.tmod n 4), decide (Int.tmod n 2 = 1)⟩
abbrev npS (v : Int) : Sg := ⟨1, v, 4, 0, false, 0, false, false, ⟨0, 0, 0, 0⟩, false, 0, 0, 0, 0⟩
abbrev nbS (v : Int) : Sg := ⟨1, v, 4, 0, true, 0, false, false, ⟨0, 0, 0, 0⟩, false, 0, 0, 0, 0⟩
abbrev dtS : Sg := ⟨3, 0, 0, 0, false, 0, false, false, ⟨0, 0, 0, 0⟩, false, 0, 0, 0, 0⟩
theorem ztN {l : List Tm} {k : Nat} {x : Tm} (h : l[k]? = some x) : (l.take k).map btT ++ [⟨x, false⟩] = (l.take (k + 1)).map btT := by
 rw [List.take_add_one, h]; simp [btT]
theorem zpa {α β : Type} (f : α -> β) (l : List α) (k : Nat) : ((l.take k).map f).length <= l.length := by rw [List.length_map, List.length_take]; omega
theorem ziQ {α : Type} {l : List α} {k : Nat} {x : α} (h : l[k]? = some x) : l.take k ++ [x] = l.take (k + 1) := by rw [List.take_add_one, h]; rfl
attribute [local irreducible] Pur yr yw Ex X Fn Imp LeV LeB FnO It yx FnW FnOW FnP FnD
attribute [local irreducible] wcE wcnE wlV rdE rdV bsV beE beV
theorem yO  : Fn Tryz.prog 15 [] (mnA mOh) := by
 refine Fn.go Tryz.func15 Tryz.ntmps15 (fun g w d => ?_);refine gq ?_;refine RetQ.ret (.one (.cellA rfl rfl rfl rfl ty32 (LeV.eq ?_)));all_goals (first | rfl | (simp_all; done))
theorem zu  : Fn Tryz.prog 10 [] (mnA mCe) := by
 refine Fn.go Tryz.func10 Tryz.ntmps10 (fun g w d => ?_);refine gq ?_;refine RetQ.ret (.one (.cellA rfl rfl rfl rfl ty32 (LeV.eq ?_)));all_goals (first | rfl | (simp_all; done))
theorem yC (v : Int) : Fn Tryz.prog 16 [iv v] (sgA (npS v)) := by
 refine Fn.go Tryz.func16 Tryz.ntmps16 (fun g w d => ?_);refine gq ?_;refine RetQ.ret (.one (.cellA rfl rfl rfl rfl ty41 (LeV.eq ?_)));all_goals (first | rfl | (simp_all; done))
theorem zk (v : Int) : Fn Tryz.prog 13 [iv v] (sgA (nbS v)) := by
 refine Fn.go Tryz.func13 Tryz.ntmps13 (fun g w d => ?_);refine gq ?_;refine RetQ.ret (.one (.cellA rfl rfl rfl rfl ty41 (LeV.eq ?_)));all_goals (first | rfl | (simp_all; done))
theorem zQ  : Fn Tryz.prog 17 [] (sgA dtS) := by
 refine Fn.go Tryz.func17 Tryz.ntmps17 (fun g w d => ?_);refine gq ?_;refine RetQ.ret (.one (.cellA rfl rfl rfl rfl ty41 (LeV.eq ?_)));all_goals (first | rfl | (simp_all; done))
theorem zf7 (n e : Int) (h0 : 0 <= n) (h1 : 1 <= e) (hn : n <= 4294967296) (hd : e <= 4294967296) : Fn Tryz.prog 8 [iv n, iv e] (tmA ⟨n / gI n e, e / gI n e⟩) := by
 refine Fn.go Tryz.func8 Tryz.ntmps8 (fun g w d => ?_);refine gq ?_;refine yb (zhR n e (by omega) (by omega)) ?_;refine gq ?_;refine RetQ.ret (.one (.cellA rfl rfl rfl rfl ty25 (LeV.eq ?_)));all_goals (first | rfl | (simp_all; done))
theorem yZ (n : Int) : Fn Tryz.prog 11 [iv n] (hbA (hbM n)) := by
 refine Fn.go Tryz.func11 Tryz.ntmps11 (fun g w d => ?_);refine gq ?_;refine RetQ.ret (.one (.cellA rfl rfl rfl rfl ty35 (LeV.eq ?_)));all_goals (first | rfl | (simp_all; done))
theorem zcx (a b : List Bt) (hl : a.length <= 4000000000) : Fn Tryz.prog 21 [btsA a, btsA b] (.bool (decide (a = b))) := by
 refine Fn.go Tryz.func21 Tryz.ntmps21 (fun g w d => ?_);refine gd ?_ ?_<;>intro hc1
 ·have hD : decide (a = b) = false := by rw [decide_eq_false_iff_not]; intro h; subst h; exact hc1 rfl
  refine gq ?_;all_goals (rw [hD])
 have hlen : a.length = b.length := by omega
 refine gq ?_
 refine yS (ι := Nat) (fun k => [(0, btsA a), (1, btsA b), (5, iv (k : Int))]) (fun k => []) (fun (k : Nat) => k <= a.length /\ a.take k = b.take k) (fun (k : Nat) => a.length - k) 0 (fun k hk => ?_) (hJ := by exact ⟨by omega, by simp⟩) (h0 := by exact yd)
 obtain ⟨hk1, hk2⟩ := hk;refine gd ?_ ?_<;>intro hc2
 ·obtain ⟨x, hx⟩ : ∃ x, a[k]? = some x := ⟨_, lgg (by omega)⟩;have hx2 : a[(k : Int).toNat]? = some x := by simpa using hx
  obtain ⟨y, hy⟩ : ∃ y, b[k]? = some y := ⟨_, lgg (by omega)⟩;have hy2 : b[(k : Int).toNat]? = some y := by simpa using hy
  refine gq ?_;refine zf [17,18,19,20,21,22,23,24,25] [0,0,3,7,0,0,48,112,255] mo ?_;iterate 8 refine yc ?_
  refine yc ?_ (hs := by exact zca (zlM _ _) inferInstance TyK.h rfl rfl rfl rfl rfl);refine yE ?_;refine gd ?_ ?_<;>intro hc3
  ·have hD : decide (a = b) = false := by rw [decide_eq_false_iff_not]; intro h; subst h; rw [hx] at hy; injection hy with hy; exact (by simpa using hc3 : ¬ x = y) hy
   refine gq ?_;all_goals (rw [hD])
  refine gq ?_
  refine yz (k + 1) (hJ := by exact ⟨by omega, by rw [← ziQ hx, ← ziQ hy, hk2, (by simpa using hc3 : x = y)]⟩) (hI := yd)
 ·have hD : decide (a = b) = true := by
   have h1 : k = a.length := by omega
   rw [decide_eq_true_iff]; subst h1; rw [List.take_length, hlen, List.take_length] at hk2; exact hk2
  refine gq ?_;all_goals (rw [hD])
theorem zcS (a b : List (List Sg)) (hl : a.length <= 4000000000) (hr : ∀ x ∈ a, x.length <= 4000000000) : Fn Tryz.prog 42 [zF a, zF b] (.bool (decide (a = b))) := by
 refine Fn.go Tryz.func42 Tryz.ntmps42 (fun g w d => ?_);refine gd ?_ ?_<;>intro hc1
 ·have hD : decide (a = b) = false := by rw [decide_eq_false_iff_not]; intro h; subst h; exact hc1 rfl
  refine gq ?_;all_goals (rw [hD])
 have hlen : a.length = b.length := by omega
 refine gq ?_
 refine yS (ι := Nat) (fun k => [(0, zF a), (1, zF b), (5, iv (k : Int))]) (fun k => []) (fun (k : Nat) => k <= a.length /\ a.take k = b.take k) (fun (k : Nat) => a.length - k) 0 (fun k hk => ?_) (hJ := by exact ⟨by omega, by simp⟩) (h0 := by exact yd)
 obtain ⟨hk1, hk2⟩ := hk;refine gd ?_ ?_<;>intro hc2
 ·obtain ⟨x, hx⟩ : ∃ x, a[k]? = some x := ⟨_, lgg (by omega)⟩;have hx2 : a[(k : Int).toNat]? = some x := by simpa using hx
  obtain ⟨y, hy⟩ : ∃ y, b[k]? = some y := ⟨_, lgg (by omega)⟩;have hy2 : b[(k : Int).toNat]? = some y := by simpa using hy
  have hxl := hr x (List.mem_of_getElem? hx);refine gq ?_;refine zf [17,18,19,20,21,22,23,24,25,26] [0,0,3,7,0,0,48,112,255,511] mo ?_;iterate 8 refine yc ?_
  refine yM (zt x y hxl) ?_;refine yc ?_;refine yE ?_;refine gd ?_ ?_<;>intro hc3
  ·have hD : decide (a = b) = false := by rw [decide_eq_false_iff_not]; intro h; subst h; rw [hx] at hy; injection hy with hy; exact (by simpa using hc3 : ¬ x = y) hy
   refine gq ?_;all_goals (rw [hD])
  refine gq ?_
  refine yz (k + 1) (hJ := by exact ⟨by omega, by rw [← ziQ hx, ← ziQ hy, hk2, (by simpa using hc3 : x = y)]⟩) (hI := yd)
 ·have hD : decide (a = b) = true := by
   have h1 : k = a.length := by omega
   rw [decide_eq_true_iff]; subst h1; rw [List.take_length, hlen, List.take_length] at hk2; exact hk2
  refine gq ?_;all_goals (rw [hD])
theorem yV (l : List Tm) (hl : l.length <= 1000) : Fn Tryz.prog 7 [tmsA l] (btsA (l.map btT)) := by
 have hz0 : [] = (l.take 0).map btT := by simp
 refine Fn.go Tryz.func7 Tryz.ntmps7 (fun g w d => ?_);apply yg;refine ya ?_;apply yI;refine yu ?_;iterate 2 apply yl
 refine X.imp (yL btE 76 3 3 30 rfl rfl) ?_;refine gq ?_
 refine yS (ι := Nat) (fun k => [(0, tmsA l), (3, .own 30), (4, iv (k : Int))]) (fun k => [(30, .row btE ((l.take k).map btT) 76 3)]) (fun (k : Nat) => k <= l.length) (fun (k : Nat) => l.length - k) 0 (fun k hk => ?_) (h0 := by exact yd)
 refine gd ?_ ?_<;>intro hc1
 ·obtain ⟨x, hx⟩ : ∃ x, l[k]? = some x := ⟨_, lgg (by omega)⟩;have hx2 : l[(k : Int).toNat]? = some x := by simpa using hx
  have hst := ztN hx;have hlt := zpa btT l k;refine gq ?_;refine yJ btE [⟨x, false⟩] ?_;refine gq ?_;refine yz (k + 1) (hI := yd)
 ·obtain rfl : k = l.length := by omega
  have hV : (l.take l.length).map btT = l.map btT := by rw [List.take_length]
  apply X.exit;apply yg;refine zm ?_;refine X.ret ?_;refine RetQ.imp (Imp.freeze (k := 30) rfl) ?_;refine gq ?_;all_goals (exact congrArg (fun z => btsA z) hV)
set_option maxHeartbeats 1000000 in
theorem zdh (m : Mn) (z : List Bt) (n : Int) (W : List (List Sg)) (hl : z.length <= 4000000000) (hw : (wlV m z (hbM n)).length <= 4000000000) (hr : ∀ x ∈ wlV m z (hbM n), x.length <= 4000000000) : Fn Tryz.prog 14 [mnA m, btsA z, iv n, zF W] (.bool (decide (wcnE m z (hbM n) = 0) && decide (wlV m z (hbM n) = W))) := by
 refine Fn.go Tryz.func14 Tryz.ntmps14 (fun g w d => ?_);refine gq ?_;refine zf [9,10,11,12,13,14,15,16,17,18] [0,0,0,4,15,31,63,63,127,511] mo ?_;iterate 3 refine yc ?_
 refine yM (yZ n) ?_;refine yM (zan m z (hbM n) hl) ?_;iterate 5 refine yc ?_
 refine yE ?_;apply yI;iterate 2 refine ya ?_
 refine ExF.at 2 ?_;refine gq ?_;refine ExF.cg (zcS (wlV m z (hbM n)) W hw hr) ?_;refine ge ?_;all_goals (first | rfl | (simp_all; done))
end Go.Rse
namespace Go.Rse
open Go Go.Proofs
theorem zpb (a b : Hb) : eqL (hbE a) (hbE b) = some (decide (a = b)) := by
 cases a; cases b;refine (y8 rfl (y8 rfl (y8 rfl rfl))).trans ?_;simp only [Hb.mk.injEq, Bool.decide_and, Bool.and_assoc, Bool.and_true, Bool.beq_eq_decide_eq]
theorem zpc (m : Mn) (z : List Bt) : (miV m z).length <= 8 := by
 unfold miV; split
 ·exact zkb m z 8
 ·simp
def ndQ (m : Mn) (z : List Bt) (W : List Int) : Bool := decide (wcnE m z (hbN 7) = 0) && decide (miV m z = W.map hbM)
theorem zxj {m : Mn} {z : List Bt} {W : List Int} (h : ¬ wcnE m z (hbN 7) = 0 \/ ¬ ((miV m z).length : Int) = (W.length : Int)) : ndQ m z W = false := by
 unfold ndQ;rcases h with h | h
 ·rw [decide_eq_false h]; rfl
 ·rw [decide_eq_false (p := miV m z = W.map hbM) (fun e => h (by rw [e, List.length_map])), Bool.and_false]
theorem zxk {m : Mn} {z : List Bt} {W : List Int} {k : Nat} {x : Hb} {y : Int} (hx : (miV m z)[k]? = some x) (hy : W[k]? = some y) (h : ¬ x = hbM y) : ndQ m z W = false := by
 unfold ndQ;rw [decide_eq_false (p := miV m z = W.map hbM) (fun e => by rw [e, List.getElem?_map, hy] at hx; injection hx with hx; exact h hx.symm), Bool.and_false]
theorem zxl {m : Mn} {z : List Bt} {W : List Int} (h0 : wcnE m z (hbN 7) = 0) (h : (miV m z).length = W.length) (h2 : (miV m z).take (miV m z).length = (W.take (miV m z).length).map hbM) : ndQ m z W = true := by
 unfold ndQ;rw [List.take_length, h, List.take_length] at h2;rw [h0, h2]; simp
theorem zxm {a : List Hb} {W : List Int} {k : Nat} {x : Hb} {y : Int} (hx : a[k]? = some x) (hy : W[k]? = some y) (h : a.take k = (W.take k).map hbM) (e : x = hbM y) : a.take (k + 1) = (W.take (k + 1)).map hbM := by
 rw [List.take_add_one, hx, List.take_add_one, hy, List.map_append, h, e]; rfl
attribute [local irreducible] Pur yr yw Ex X Fn Imp LeV LeB FnO It yx FnW FnOW FnP FnD
attribute [local irreducible] miV hbM hbN wcnE ndQ
set_option maxHeartbeats 1000000 in
theorem zed (m : Mn) (z : List Bt) (W : List Int) (hl : z.length <= 4000000000) : Fn Tryz.prog 18 [mnA m, btsA z, yf W] (.bool (ndQ m z W)) := by
 have hm8 := zpc m z;refine Fn.go Tryz.func18 Tryz.ntmps18 (fun g w d => ?_);refine gq ?_;refine yb (zeJ m z hl) ?_;refine zko ?_;apply yl;apply yg;iterate 2 refine ya ?_
 refine ExF.at 2 ?_;refine yA ?_;iterate 5 refine ExF.gi ?_
 refine gf ?_ ?_<;>intro hc1
 ·have hD := zxj (m := m) (z := z) (W := W) (by simpa using hc1);refine gq ?_;all_goals (rw [hD])
 have hE : wcnE m z (hbN 7) = 0 /\ ((miV m z).length : Int) = (W.length : Int) := by simpa using hc1
 have hlen : (miV m z).length = W.length := by omega
 refine gq ?_
 refine yS (ι := Nat) (fun k => [(2, yf W), (7, .sl hbE (miV m z)), (9, iv (k : Int))]) (fun k => []) (fun (k : Nat) => k <= (miV m z).length /\ (miV m z).take k = (W.take k).map hbM) (fun (k : Nat) => (miV m z).length - k) 0 (fun k hk => ?_) (hJ := by exact ⟨by omega, by simp⟩) (h0 := by exact yd)
 obtain ⟨hk1, hk2⟩ := hk;refine gd ?_ ?_<;>intro hc2
 ·obtain ⟨x, hx⟩ : ∃ x, (miV m z)[k]? = some x := ⟨_, lgg (by omega)⟩;have hx2 : (miV m z)[(k : Int).toNat]? = some x := by simpa using hx
  obtain ⟨y, hy⟩ : ∃ y, W[k]? = some y := ⟨_, lgg (by omega)⟩;have hy2 : W[(k : Int).toNat]? = some y := by simpa using hy
  refine gq ?_;refine zf [31,32,33,34,35,36,37,38,39,40] [0,0,3,7,0,0,48,112,240,511] mo ?_;iterate 8 refine yc ?_
  refine yM (yZ y) ?_;refine yc ?_ (hs := by exact zca (zpb _ _) inferInstance TyK.h rfl rfl rfl rfl rfl);refine yE ?_;refine gd ?_ ?_<;>intro hc3
  ·have hD := zxk hx hy (by simpa using hc3);refine gq ?_;all_goals (rw [hD])
  refine gq ?_
  refine yz (k + 1) (hJ := by exact ⟨by omega, zxm hx hy hk2 (by simpa using hc3)⟩) (hI := yd)
 ·obtain rfl : k = (miV m z).length := by omega
  have hD := zxl hE.1 hlen hk2;refine gq ?_;all_goals (rw [hD])
end Go.Rse
namespace Go.Rse
open Go Go.Proofs
def wr24 (m : Mn) (l : List Tm) (n : Int) (W : List (List Sg)) : Bool := decide (wcnE m (l.map btT) (hbM n) = 0) && decide (wlV m (l.map btT) (hbM n) = W)
abbrev tMi : List Tm := [⟨3, 2⟩, ⟨1, 2⟩]
abbrev W1 : List (List Sg) := [[npS 3, npS 4, npS 3]]
abbrev W2 : List (List Sg) := [[nbS 4, nbS 5], [npS 5, dtS, npS 6], [npS 5, dtS, nbS 6, dtS]]
theorem ztO : wr24 mOh [⟨4, 1⟩, ⟨2, 1⟩, ⟨6, 1⟩] 0 W1 = true := by kernel_rfl
theorem ztP : wr24 mCe tMi 7 W2 = true := by kernel_rfl
theorem ztQ : ndQ mCe (tMi.map btT) [2, 4] = true := by kernel_rfl
theorem ztR : wr24 mCe tMi 4 [[nbS 4, nbS 5]] = true := by kernel_rfl
theorem ztS : wr24 mOh [⟨2, 1⟩, ⟨4, 1⟩, ⟨6, 1⟩] 0 [] = true := by kernel_rfl
theorem ztT : wr24 mOh [⟨3, 1⟩, ⟨1, 1⟩] 2 [[npS 4, dtS, npS 5]] = true := by kernel_rfl
theorem ztU : ndQ mOh ([⟨4, 1⟩, ⟨2, 1⟩, ⟨6, 1⟩].map btT) [0] = true := by kernel_rfl
theorem ztV : ndQ mOh ([⟨5, 1⟩].map btT) [] = true := by kernel_rfl
end Go.Rse
namespace Go.Rse
open Go Go.Proofs
attribute [local irreducible] Pur yr yw Ex X Fn Imp LeV LeB FnO It yx FnW FnOW FnP FnD
attribute [local irreducible] wcnE wlV hbM ndQ btT gI
theorem zN (n e : Int) (t : Tm) (h : (decide (0 <= n) && (decide (1 <= e) && (decide (n <= 4294967296) && (decide (e <= 4294967296) && decide ((⟨n / gI n e, e / gI n e⟩ : Tm) = t))))) = true) : Fn Tryz.prog 8 [iv n, iv e] (tmA t) := by
 simp only [Bool.and_eq_true, decide_eq_true_iff] at h;obtain ⟨a, b, c, d, e'⟩ := h;have := zf7 n e a b c d;rw [e'] at this; exact this
theorem zgN {m : Mn} {l : List Tm} {n : Int} {W : List (List Sg)} (e : wr24 m l n W = true) (hl : l.length <= 1000) : Fn Tryz.prog 14 [mnA m, btsA (l.map btT), iv n, zF W] (.bool true) := by
 unfold wr24 at e;have e2 := e;rw [Bool.and_eq_true, decide_eq_true_iff, decide_eq_true_iff] at e2;have h1 := zk4 e2.1;have c := zdh m (l.map btT) n W (by rw [List.length_map]; omega) (by omega) (fun x hx => by have := h1.2 x hx; omega);rw [e] at c; exact c
theorem zkH {m : Mn} {l : List Tm} {W : List Int} (e : ndQ m (l.map btT) W = true) (hl : l.length <= 1000) : Fn Tryz.prog 18 [mnA m, btsA (l.map btT), yf W] (.bool true) := by
 have c := zed m (l.map btT) W (by rw [List.length_map]; omega);rw [e] at c; exact c
set_option maxHeartbeats 4000000 in
set_option maxRecDepth 100000 in
theorem zee  : Fn Tryz.prog 25 [] (.bool true) := by
 refine Fn.go Tryz.func25 Tryz.ntmps25 (fun g w d => ?_);refine gq ?_;refine yb (zN 3 2 ⟨3, 2⟩ (by kernel_rfl)) ?_;refine yb (zN 1 2 ⟨1, 2⟩ (by kernel_rfl)) ?_;refine Ex.stepA (zac (enc := tmE) (l := tMi) sl54 ty25 ze25) rfl rfl ?_;refine yb (yV tMi (by decide)) ?_;refine gq ?_;refine yb yO ?_;refine yb (zN 4 1 ⟨4, 1⟩ (by kernel_rfl)) ?_;refine yb (zN 2 1 ⟨2, 1⟩ (by kernel_rfl)) ?_;refine yb (zN 6 1 ⟨6, 1⟩ (by kernel_rfl)) ?_;refine Ex.stepA (zac (enc := tmE) (l := [⟨4, 1⟩, ⟨2, 1⟩, ⟨6, 1⟩]) sl54 ty25 ze25) rfl rfl ?_;refine yb (yV [⟨4, 1⟩, ⟨2, 1⟩, ⟨6, 1⟩] (by decide)) ?_;refine yb (yC 3) ?_;refine yb (yC 4) ?_;refine yb (yC 3) ?_;refine Ex.stepA (zac (enc := sgE) (l := [npS 3, npS 4, npS 3]) sl27 ty41 ze41) rfl rfl ?_;refine Ex.stepA (zac (enc := sgsE) (l := W1) sl55 ty27 ze27) rfl rfl ?_;refine yb (zgN ztO (by decide)) ?_;refine ExF.at 12 ?_;refine gq ?_;refine ExF.cg zu ?_;refine gq ?_;refine ExF.cg (zk 4) ?_;refine ExF.cg (zk 5) ?_;refine ExF.gs (zh5 (enc := sgE) (l := [nbS 4, nbS 5]) sl27 ty41 ze41 (by decide) rfl rfl rfl rfl (by decide) (by decide) (fun _ => rfl) rfl) ?_;refine ExF.cg (yC 5) ?_;refine ExF.cg zQ ?_;refine ExF.cg (yC 6) ?_;refine ExF.gs (zh5 (enc := sgE) (l := [npS 5, dtS, npS 6]) sl27 ty41 ze41 (by decide) rfl rfl rfl rfl (by decide) (by decide) (fun _ => rfl) rfl) ?_;refine ExF.cg (yC 5) ?_;refine ExF.cg zQ ?_;refine ExF.cg (zk 6) ?_;refine ExF.cg zQ ?_;refine ExF.gs (zh5 (enc := sgE) (l := [npS 5, dtS, nbS 6, dtS]) sl27 ty41 ze41 (by decide) rfl rfl rfl rfl (by decide) (by decide) (fun _ => rfl) rfl) ?_;refine ExF.gs (zh5 (enc := sgsE) (l := W2) sl55 ty27 ze27 (by decide) rfl rfl rfl rfl (by decide) (by decide) (fun _ => rfl) rfl) ?_;refine ExF.cg (zgN ztP (by decide)) ?_;refine gq ?_;refine ExF.cg zu ?_;refine gq ?_;refine ExF.gs (zh5 (enc := intE) (l := [2, 4]) sl59 ty3 ze3 (by decide) rfl rfl rfl rfl (by decide) (by decide) (fun _ => rfl) rfl) ?_;refine ExF.cg (zkH ztQ (by decide)) ?_;refine ge ?_;all_goals (first | rfl | simp)
end Go.Rse
namespace Go.Rse
open Go Go.Proofs
abbrev zbo : List Sg := [npS 3, npS 4, npS 3]
abbrev zcT : List Sg := [npS 3, npS 4, npS 3, dtS]
abbrev zcU : List Sg := [npS 4, npS 3, npS 3]
abbrev t426 : List Tm := [⟨4, 1⟩, ⟨2, 1⟩, ⟨6, 1⟩]
abbrev t13 : List Tm := List.replicate 13 ⟨2, 1⟩
theorem ztW : (decide (beE mCe (tMi.map btT) (hbM 7) = 0) && decide (beV mCe (tMi.map btT) (hbM 7) = [nbS 4, nbS 5])) = true := by kernel_rfl
theorem ztX : (decide (rdE mOh zbo = 0) && decide (bsV mOh zbo = t426.map btT)) = true := by kernel_rfl
theorem ztY : (decide (unE2 mOh zbo mCe (hbM 0) = 18) && decide (unV2 mOh zbo mCe (hbM 0) = [])) = true := by kernel_rfl
theorem ztZ : (decide (unE2 mOh zbo mCe (hbM 2) = 0) && decide (unV2 mOh zbo mCe (hbM 2) = zcT)) = true := by kernel_rfl
theorem zt0 : (decide (skE mOh zbo mCe zcT = 0) && decide (skB mOh zbo mCe zcT = true)) = true := by kernel_rfl
theorem zt1 : (decide (skE mOh zcU mOh zcU = 0) && decide (skB mOh zcU mOh zcU = false)) = true := by kernel_rfl
theorem zt2 : (decide (beE mOh ([⟨5, 1⟩].map btT) (hbM 7) = 18) && decide (beV mOh ([⟨5, 1⟩].map btT) (hbM 7) = [])) = true := by kernel_rfl
theorem zt3 : (decide (wcnE mOh [] (hbM 0) = 0) && decide (((wlV mOh [] (hbM 0)).length : Int) = 1)) = true := by kernel_rfl
theorem zt4 : (decide (wcnE mOh (t13.map btT) (hbM 0) = 11) && decide (wlV mOh (t13.map btT) (hbM 0) = [])) = true := by kernel_rfl
attribute [local irreducible] Pur yr yw Ex X Fn Imp LeV LeB FnO It yx FnW FnOW FnP FnD
attribute [local irreducible] wcnE wlV hbM ndQ btT gI beE beV rdE bsV unE2 unV2 skE skB
theorem ziR {P : Program} {f : FuncId} {xs ys : List AV} {r : AV} (h : Fn P f xs r) (hl : LeL ys xs) : Fn P f ys r := by
 unfold Fn at *
 exact ⟨h.1, h.2.1, fun g w args him hr => h.2.2 g w args him (hl.rvl hr)⟩
theorem zxn : Fn Tryz.prog 9 [mnA mCe, btsA (tMi.map btT), hbA (hbM 7)] (.tup [sgsA [nbS 4, nbS 5], iv 0]) := by
 have h := zbt mCe (tMi.map btT) (hbM 7) (by decide);have e := ztW;rw [Bool.and_eq_true, decide_eq_true_iff, decide_eq_true_iff] at e;rw [e.1, e.2] at h; exact h
theorem zxo : Fn Tryz.prog 19 [mnA mOh, sgsA zbo] (.tup [btsA (t426.map btT), iv 0]) := by
 have h := zau mOh zbo (by decide);have e := ztX;rw [Bool.and_eq_true, decide_eq_true_iff, decide_eq_true_iff] at e;rw [e.1, e.2] at h; exact h
theorem zxp : Fn Tryz.prog 20 [mnA mOh, sgsA zbo, mnA mCe, hbA (hbM 0)] (.tup [sgsA [], iv 18]) := by
 have h := zcH mOh zbo mCe (hbM 0) (by decide);have e := ztY;rw [Bool.and_eq_true, decide_eq_true_iff, decide_eq_true_iff] at e;rw [e.1, e.2] at h; exact h
theorem zxq : Fn Tryz.prog 20 [mnA mOh, sgsA zbo, mnA mCe, hbA (hbM 2)] (.tup [sgsA zcT, iv 0]) := by
 have h := zcH mOh zbo mCe (hbM 2) (by decide);have e := ztZ;rw [Bool.and_eq_true, decide_eq_true_iff, decide_eq_true_iff] at e;rw [e.1, e.2] at h; exact h
theorem zxr : Fn Tryz.prog 22 [mnA mOh, sgsA zbo, mnA mCe, sgsA zcT] (.tup [.bool true, iv 0]) := by
 have h := zcI mOh zbo mCe zcT (by decide) (by decide);have e := zt0;rw [Bool.and_eq_true, decide_eq_true_iff, decide_eq_true_iff] at e;rw [e.1, e.2] at h; exact h
theorem zxs : Fn Tryz.prog 22 [mnA mOh, sgsA zcU, mnA mOh, sgsA zcU] (.tup [.bool false, iv 0]) := by
 have h := zcI mOh zcU mOh zcU (by decide) (by decide);have e := zt1;rw [Bool.and_eq_true, decide_eq_true_iff, decide_eq_true_iff] at e;rw [e.1, e.2] at h; exact h
theorem zxt : Fn Tryz.prog 9 [mnA mOh, btsA ([⟨5, 1⟩].map btT), hbA (hbM 7)] (.tup [sgsA [], iv 18]) := by
 have h := zbt mOh ([⟨5, 1⟩].map btT) (hbM 7) (by decide);have e := zt2;rw [Bool.and_eq_true, decide_eq_true_iff, decide_eq_true_iff] at e;rw [e.1, e.2] at h; exact h
theorem zxu : Fn Tryz.prog 23 [mnA mOh, .nils, hbA (hbM 0)] (.tup [iv 1, iv 0]) := by
 have h := zcG mOh [] (hbM 0) (by decide);have e := zt3;rw [Bool.and_eq_true, decide_eq_true_iff, decide_eq_true_iff] at e;rw [e.1, e.2] at h; exact ziR h (.cons (LeV.refl _) (.cons (LeV.nils _) (.cons (LeV.refl _) .nil)))
theorem zxv : Fn Tryz.prog 24 [mnA mOh, btsA (t13.map btT), hbA (hbM 0)] (.tup [zF [], iv 11]) := by
 have h := zan mOh (t13.map btT) (hbM 0) (by decide);have e := zt4;rw [Bool.and_eq_true, decide_eq_true_iff, decide_eq_true_iff] at e;rw [e.1, e.2] at h; exact h
set_option maxHeartbeats 16000000 in
set_option maxRecDepth 100000 in
theorem zbD  : Fn Tryz.prog 3 [] (.bool true) := by
 refine Fn.go Tryz.func3 Tryz.ntmps3 (fun g w d => ?_);refine gq ?_;refine yb (zN 3 2 ⟨3, 2⟩ (by kernel_rfl)) ?_;refine yb (zN 1 2 ⟨1, 2⟩ (by kernel_rfl)) ?_;refine Ex.stepA (zac (enc := tmE) (l := tMi) sl54 ty25 ze25) rfl rfl ?_;refine yb (yV tMi (by decide)) ?_;refine gq ?_;refine yb zu ?_;refine gq ?_;refine yb (yZ 7) ?_;refine yb zxn ?_;refine zko ?_;apply yl;apply yg;iterate 2 refine ya ?_
 refine ExF.at 2 ?_;refine gq ?_;refine ExF.cg (zk 4) ?_;refine ExF.cg (zk 5) ?_;refine ExF.gs (zh5 (enc := sgE) (l := [nbS 4, nbS 5]) sl27 ty41 ze41 (by decide) rfl rfl rfl rfl (by decide) (by decide) (fun _ => rfl) rfl) ?_;refine ExF.cg (zt [nbS 4, nbS 5] [nbS 4, nbS 5] (by decide)) ?_;refine gq ?_;refine ExF.cg zu ?_;refine gq ?_;refine ExF.cg (zk 4) ?_;refine ExF.cg (zk 5) ?_;refine ExF.gs (zh5 (enc := sgE) (l := [nbS 4, nbS 5]) sl27 ty41 ze41 (by decide) rfl rfl rfl rfl (by decide) (by decide) (fun _ => rfl) rfl) ?_;refine ExF.gs (zh5 (enc := sgsE) (l := [[nbS 4, nbS 5]]) sl55 ty27 ze27 (by decide) rfl rfl rfl rfl (by decide) (by decide) (fun _ => rfl) rfl) ?_;refine ExF.cg (zgN ztR (by decide)) ?_;refine gq ?_;refine ExF.cg yO ?_;refine ExF.cg (zN 2 1 ⟨2, 1⟩ (by kernel_rfl)) ?_;refine ExF.cg (zN 4 1 ⟨4, 1⟩ (by kernel_rfl)) ?_;refine ExF.cg (zN 6 1 ⟨6, 1⟩ (by kernel_rfl)) ?_;refine ExF.gs (zh5 (enc := tmE) (l := [⟨2, 1⟩, ⟨4, 1⟩, ⟨6, 1⟩]) sl54 ty25 ze25 (by decide) rfl rfl rfl rfl (by decide) (by decide) (fun _ => rfl) rfl) ?_;refine ExF.cg (yV [⟨2, 1⟩, ⟨4, 1⟩, ⟨6, 1⟩] (by decide)) ?_;refine ExF.cg (ziR (zgN ztS (by decide)) (.cons (LeV.refl _) (.cons (LeV.refl _) (.cons (LeV.refl _) (.cons (LeV.nils _) .nil))))) ?_;refine gq ?_;refine ExF.cg yO ?_;refine ExF.cg (zN 3 1 ⟨3, 1⟩ (by kernel_rfl)) ?_;refine ExF.cg (zN 1 1 ⟨1, 1⟩ (by kernel_rfl)) ?_;refine ExF.gs (zh5 (enc := tmE) (l := [⟨3, 1⟩, ⟨1, 1⟩]) sl54 ty25 ze25 (by decide) rfl rfl rfl rfl (by decide) (by decide) (fun _ => rfl) rfl) ?_;refine ExF.cg (yV [⟨3, 1⟩, ⟨1, 1⟩] (by decide)) ?_;refine ExF.cg (yC 4) ?_;refine ExF.cg zQ ?_;refine ExF.cg (yC 5) ?_;refine ExF.gs (zh5 (enc := sgE) (l := [npS 4, dtS, npS 5]) sl27 ty41 ze41 (by decide) rfl rfl rfl rfl (by decide) (by decide) (fun _ => rfl) rfl) ?_;refine ExF.gs (zh5 (enc := sgsE) (l := [[npS 4, dtS, npS 5]]) sl55 ty27 ze27 (by decide) rfl rfl rfl rfl (by decide) (by decide) (fun _ => rfl) rfl) ?_;refine ExF.cg (zgN ztT (by decide)) ?_;refine ExF.gi ?_;refine gf ?_ ?_<;>intro hc1
 ·simp at hc1
 refine gq ?_;refine yb yO ?_;refine yb (zN 4 1 ⟨4, 1⟩ (by kernel_rfl)) ?_;refine yb (zN 2 1 ⟨2, 1⟩ (by kernel_rfl)) ?_;refine yb (zN 6 1 ⟨6, 1⟩ (by kernel_rfl)) ?_;refine Ex.stepA (zac (enc := tmE) (l := t426) sl54 ty25 ze25) rfl rfl ?_;refine yb (yV t426 (by decide)) ?_;refine Ex.stepA (zac (enc := intE) (l := [0]) sl59 ty3 ze3) rfl rfl ?_;refine yb (zkH ztU (by decide)) ?_;refine ya ?_;refine ExF.at 9 ?_;refine gq ?_;refine ExF.cg yO ?_;refine ExF.cg (zN 5 1 ⟨5, 1⟩ (by kernel_rfl)) ?_;refine ExF.gs (zh5 (enc := tmE) (l := [⟨5, 1⟩]) sl54 ty25 ze25 (by decide) rfl rfl rfl rfl (by decide) (by decide) (fun _ => rfl) rfl) ?_;refine ExF.cg (yV [⟨5, 1⟩] (by decide)) ?_;refine ExF.cg (ziR (zkH ztV (by decide)) (.cons (LeV.refl _) (.cons (LeV.refl _) (.cons (LeV.nils _) .nil)))) ?_;refine ExF.gi ?_;refine gf ?_ ?_<;>intro hc2
 ·simp at hc2
 refine gq ?_;refine yb (yC 3) ?_;refine yb (yC 4) ?_;refine yb (yC 3) ?_;refine Ex.stepA (zac (enc := sgE) (l := zbo) sl27 ty41 ze41) rfl rfl ?_;refine gq ?_;refine yb yO ?_;refine gq ?_;refine yb zxo ?_;refine gq ?_;refine yb yO ?_;refine gq ?_;refine yb zu ?_;refine yb (yZ 0) ?_;refine yb zxp ?_;refine gq ?_;refine yb yO ?_;refine gq ?_;refine yb zu ?_;refine yb (yZ 2) ?_;refine yb zxq ?_;refine gq ?_;refine yb (yC 3) ?_;refine yb (yC 4) ?_;refine yb (yC 3) ?_;refine yb zQ ?_;refine Ex.stepA (zac (enc := sgE) (l := zcT) sl27 ty41 ze41) rfl rfl ?_;refine yu ?_;apply yl;apply yg;iterate 2 refine ya ?_
 refine ExF.at 2 ?_;refine gq ?_;refine ExF.cg (zN 4 1 ⟨4, 1⟩ (by kernel_rfl)) ?_;refine ExF.cg (zN 2 1 ⟨2, 1⟩ (by kernel_rfl)) ?_;refine ExF.cg (zN 6 1 ⟨6, 1⟩ (by kernel_rfl)) ?_;refine ExF.gs (zh5 (enc := tmE) (l := t426) sl54 ty25 ze25 (by decide) rfl rfl rfl rfl (by decide) (by decide) (fun _ => rfl) rfl) ?_;refine ExF.cg (yV t426 (by decide)) ?_;refine ExF.cg (zcx (t426.map btT) (t426.map btT) (by decide)) ?_;refine gq ?_;refine ExF.cg (zt zcT zcT (by decide)) ?_;refine ExF.gi ?_;refine gf ?_ ?_<;>intro hc3
 ·simp at hc3
 refine gq ?_;refine yb yO ?_;refine gq ?_;refine yb zu ?_;refine gq ?_;refine yb zxr ?_;refine gq ?_;refine yb (yC 4) ?_;iterate 2 refine yb (yC 3) ?_
 refine Ex.stepA (zac (enc := sgE) (l := zcU) sl27 ty41 ze41) rfl rfl ?_;refine gq ?_;refine yb yO ?_;refine gq ?_;refine yb yO ?_;refine gq ?_;refine yb zxs ?_;refine gq ?_;refine yb yO ?_;refine yb (zN 5 1 ⟨5, 1⟩ (by kernel_rfl)) ?_;refine Ex.stepA (zac (enc := tmE) (l := [⟨5, 1⟩]) sl54 ty25 ze25) rfl rfl ?_;refine yb (yV [⟨5, 1⟩] (by decide)) ?_;refine yb (yZ 7) ?_;refine yb zxt ?_;refine gq ?_;refine yb yO ?_;refine yb (yZ 0) ?_;refine yb zxu ?_;iterate 5 refine ya ?_
 apply yI;refine yu ?_;iterate 2 apply yl
 refine X.imp (yL tmE 25 2 16 31 rfl rfl) ?_;refine gq ?_
 refine yS (ι := Nat) (fun k => [(3, iv 0), (7, iv 0), (9, iv 18), (11, .bool true), (13, .bool false), (14, iv 1), (15, iv 0), (16, .own 31), (17, iv (k : Int))]) (fun k => [(31, .row tmE (List.replicate k (⟨2, 1⟩ : Tm)) 25 2)]) (fun (k : Nat) => k <= 13) (fun (k : Nat) => 13 - k) 0 (fun k hk => ?_) (hJ := by exact Nat.zero_le _) (h0 := by exact yd)
 refine gd ?_ ?_<;>intro hc4
 ·have hst : List.replicate k (⟨2, 1⟩ : Tm) ++ [⟨2, 1⟩] = List.replicate (k + 1) (⟨2, 1⟩ : Tm) := (List.replicate_succ').symm;refine gq ?_;refine yb (zN 2 1 ⟨2, 1⟩ (by kernel_rfl)) ?_;refine Ex.stepA (zac (enc := tmE) (l := [⟨2, 1⟩]) sl54 ty25 ze25) rfl rfl ?_;refine gq ?_;refine yz (k + 1) (hI := yd)
 ·obtain rfl : k = 13 := by omega
  refine gq ?_;refine yb yO ?_;refine ya ?_;refine Ex.imp (Imp.freeze (k := 31) rfl) ?_;refine yb (yV t13 (by decide)) ?_;refine yb (yZ 0) ?_;refine yb zxv ?_;iterate 5 refine ya ?_
  apply yI;refine ya ?_;refine ExF.at 1 ?_;refine gq ?_;refine ExF.cg zee ?_;refine ge ?_;all_goals (first | rfl | simp)
end Go.Rse
namespace Go.Rse
open Go Go.Proofs
def fE (m : Mn) (v : Int) : Int := (yq m v).N * 8 / (yq m v).D
def feOk (m : Mn) (v : Int) : Bool := decide ((yq m v).N * 8 = fE m v * (yq m v).D) && decide (1 <= fE m v) && decide (fE m v <= 648) && decide (ckT (yq m v) = 0) && decide ((yq m v).D <= 8) && decide ((yq m v).N <= 81) && decide (1 <= (yq m v).N) &&
 (decide (v = 8) || decide (fE m v = m.p v * fE m (v + 1))) && (decide (¬ v = 8) || decide (fE m v = 1)) && (decide (¬ v = 1) || decide (128 <= fE m v)) && decide (m.p v <= 3)
theorem znp : zgM feOk = true := by kernel_rfl
structure FE (m : Mn) (v : Int) : Prop where
 e : (yq m v).N * 8 = fE m v * (yq m v).D
 b1 : 1 <= fE m v
 b2 : fE m v <= 648
 ck : ckT (yq m v) = 0
 d : (yq m v).D <= 8
 n : (yq m v).N <= 81
 n1 : 1 <= (yq m v).N
 p : v = 8 \/ fE m v = m.p v * fE m (v + 1)
 l : ¬ v = 8 \/ fE m v = 1
 g : ¬ v = 1 \/ 128 <= fE m v
 p3 : m.p v <= 3
theorem zt5 {m : Mn} {v : Int} (hm : ckM m = 0) (h1 : 1 <= v) (h8 : v <= 8) : FE m v := by
 have h := zcw znp hm h1 h8;unfold feOk at h;simp only [Bool.and_eq_true, Bool.or_eq_true, decide_eq_true_eq] at h;obtain ⟨⟨⟨⟨⟨⟨⟨⟨⟨⟨a, b⟩, c⟩, d⟩, e⟩, f⟩, g⟩, i⟩, j⟩, k⟩, l⟩ := h;exact ⟨a, b, c, d, e, f, g, i, j, k, l⟩
end Go.Rse
namespace Go.Rse
open Go Go.Proofs Go.RowKit
section
variable {P : Program} {C : Ctx} {st : St} {ty : TypeId}
end
attribute [local irreducible] Pur yr yw Ex X Fn Imp LeV LeB FnO It yx
attribute [local irreducible] yq sumE sumV mMk
end Go.Rse
namespace Go.Rse
open Go Go.Proofs
attribute [local irreducible] Pur yr yw Ex X Fn Imp LeV LeB FnO It yx
attribute [local irreducible] yq durT mulV mulE subV subE
end Go.Rse
namespace Go.Rse
end Go.Rse
namespace Go.Rse
open Go Go.Proofs Go.Sort
def ltT (s t : Tm) : Prop := s.N * t.D < t.N * s.D
instance (s t : Tm) : Decidable (ltT s t) := inferInstanceAs (Decidable (_ < _))
theorem zpd (s : Tm) : ¬ ltT s s := by unfold ltT; omega
end Go.Rse
