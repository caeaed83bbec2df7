/-
  Walks: what the statements on writings share (sameRuns, sameBeats, beats, habits, written).
-/
import Derived.Test.YtkpbljifckjeoaaGreatDoorQJWrs6
import Derived.Test.YtkpbljifckjeoaaGreatDoorQJLev6
set_option linter.unusedSimpArgs false
set_option linter.unusedVariables false
namespace Go.Rse
open Go Go.Proofs
abbrev mOh : Mn := ⟨2, 2, 3, 2⟩
abbrev mCe : Mn := ⟨2, 2, 2, 2⟩
def btT (t : Tm) : Bt := ⟨t, false⟩
def hbM (n : Int) : Hb := ⟨decide (4 <= n), decide (2 <= Int.tmod n 4), decide (Int.tmod n 2 = 1)⟩
abbrev npS (v : Int) : Sg := ⟨1, v, 4, 0, false, 0, false, false, ⟨0, 0, 0, 0⟩, false, 0, 0, 0, 0⟩
abbrev nbS (v : Int) : Sg := ⟨1, v, 4, 0, true, 0, false, false, ⟨0, 0, 0, 0⟩, false, 0, 0, 0, 0⟩
abbrev dtS : Sg := ⟨3, 0, 0, 0, false, 0, false, false, ⟨0, 0, 0, 0⟩, false, 0, 0, 0, 0⟩
theorem zrm {l : List Tm} {k : Nat} {x : Tm} (h : l[k]? = some x) : (l.take k).map btT ++ [⟨x, false⟩] = (l.take (k + 1)).map btT := by
 rw [List.take_add_one, h]; simp [btT]
theorem znj {α β : Type} (f : α -> β) (l : List α) (k : Nat) : ((l.take k).map f).length <= l.length := by rw [List.length_map, List.length_take]; omega
theorem zhR {α : Type} {l : List α} {k : Nat} {x : α} (h : l[k]? = some x) : l.take k ++ [x] = l.take (k + 1) := by rw [List.take_add_one, h]; rfl
attribute [local irreducible] Pur yC yE Ex X Fn Imp LeV LeB FnO It yJ FnW FnOW FnP FnD
attribute [local irreducible] wcE wcnE wlV rdE rdV bsV beE beV
theorem yQ  : Fn Tryz.prog 15 [] (mnA mOh) := by
 refine Fn.go Tryz.func15 Tryz.ntmps15 (fun g w d => ?_);apply yb;refine yD ?_;apply yi;refine ya ?_;refine Ex.mo ?_;apply Ex.nil;refine X.ret ?_;refine RetQ.ret (.one (.cellA rfl rfl rfl rfl ty32 (LeV.eq ?_)));all_goals (first | rfl | (simp_all; done))
theorem zA  : Fn Tryz.prog 10 [] (mnA mCe) := by
 refine Fn.go Tryz.func10 Tryz.ntmps10 (fun g w d => ?_);apply yb;refine yD ?_;apply yi;refine ya ?_;refine Ex.mo ?_;apply Ex.nil;refine X.ret ?_;refine RetQ.ret (.one (.cellA rfl rfl rfl rfl ty32 (LeV.eq ?_)));all_goals (first | rfl | (simp_all; done))
theorem yI (v : Int) : Fn Tryz.prog 16 [iv v] (sgA (npS v)) := by
 refine Fn.go Tryz.func16 Tryz.ntmps16 (fun g w d => ?_);apply yb;refine yD ?_;apply yi;iterate 2 refine ya ?_
 refine Ex.mo ?_;apply Ex.nil;refine X.ret ?_;refine RetQ.ret (.one (.cellA rfl rfl rfl rfl ty41 (LeV.eq ?_)));all_goals (first | rfl | (simp_all; done))
theorem zo (v : Int) : Fn Tryz.prog 13 [iv v] (sgA (nbS v)) := by
 refine Fn.go Tryz.func13 Tryz.ntmps13 (fun g w d => ?_);apply yb;refine yD ?_;apply yi;iterate 2 refine ya ?_
 refine Ex.mo ?_;apply Ex.nil;refine X.ret ?_;refine RetQ.ret (.one (.cellA rfl rfl rfl rfl ty41 (LeV.eq ?_)));all_goals (first | rfl | (simp_all; done))
theorem zQ  : Fn Tryz.prog 17 [] (sgA dtS) := by
 refine Fn.go Tryz.func17 Tryz.ntmps17 (fun g w d => ?_);apply yb;refine yD ?_;apply yi;refine ya ?_;refine Ex.mo ?_;apply Ex.nil;refine X.ret ?_;refine RetQ.ret (.one (.cellA rfl rfl rfl rfl ty41 (LeV.eq ?_)));all_goals (first | rfl | (simp_all; done))
theorem zfn (n e : Int) (h0 : 0 <= n) (h1 : 1 <= e) (hn : n <= 4294967296) (hd : e <= 4294967296) : Fn Tryz.prog 8 [iv n, iv e] (tmA ⟨n / gI n e, e / gI n e⟩) := by
 refine Fn.go Tryz.func8 Tryz.ntmps8 (fun g w d => ?_);apply yb;refine yD ?_;apply yi;iterate 2 refine ya ?_
 refine yj (zgY n e (by omega) (by omega)) ?_;refine Ex.mo ?_;apply Ex.nil;refine X.ret ?_;refine RetQ.ret (.one (.cellA rfl rfl rfl rfl ty25 (LeV.eq ?_)));all_goals (first | rfl | (simp_all; done))
theorem zg (n : Int) : Fn Tryz.prog 11 [iv n] (hbA (hbM n)) := by
 refine Fn.go Tryz.func11 Tryz.ntmps11 (fun g w d => ?_);apply yb;refine yD ?_;apply yi;iterate 9 refine ya ?_
 refine Ex.mo ?_;apply Ex.nil;refine X.ret ?_;refine RetQ.ret (.one (.cellA rfl rfl rfl rfl ty35 (LeV.eq ?_)));all_goals (first | rfl | (simp_all; done))
theorem zcc (a b : List Bt) (hl : a.length <= 4000000000) : Fn Tryz.prog 21 [btsA a, btsA b] (.bool (decide (a = b))) := by
 refine Fn.go Tryz.func21 Tryz.ntmps21 (fun g w d => ?_);apply yb;refine ye ?_;apply yd;apply yb;refine zu ?_;refine yl rfl ?_ ?_<;>intro hc1
 ·have hD : decide (a = b) = false := by rw [decide_eq_false_iff_not]; intro h; subst h; exact hc1 rfl
  apply yb;refine ye ?_;refine X.ret ?_;refine yh ?_;all_goals (rw [hD])
 have hlen : a.length = b.length := by omega
 apply yf;apply yd;apply yb;refine ye ?_;apply X.block
 refine zl (ι := Nat) (fun (k : Nat) => [(0, btsA a), (1, btsA b), (5, iv (k : Int))]) (fun (k : Nat) => []) (fun (k : Nat) => k <= a.length /\ a.take k = b.take k) (fun (k : Nat) => a.length - k) 0 (fun k hk => ?_) (hJ := by
  exact ⟨by omega, by simp⟩) (h0 := by
  exact yq)
 obtain ⟨hk1, hk2⟩ := hk;apply yd;apply yb;refine zaj ?_;refine yl rfl ?_ ?_<;>intro hc2
 ·obtain ⟨x, hx⟩ : ∃ x, a[k]? = some x := ⟨_, lgg (by omega)⟩;have hx2 : a[(k : Int).toNat]? = some x := by simpa using hx
  obtain ⟨y, hy⟩ : ∃ y, b[k]? = some y := ⟨_, lgg (by omega)⟩;have hy2 : b[(k : Int).toNat]? = some y := by simpa using hy
  apply yf;apply yd;apply X.block;apply yd;refine zz [17,18,19,20,21,22,23,24,25] [0,0,3,7,0,0,48,112,255] mo ?_;iterate 8 refine yk ?_
  refine yk ?_ (hs := by exact zbS (zkn _ _) inferInstance TyK.h rfl rfl rfl rfl rfl);refine yX ?_;apply Ex.nil;refine yl rfl ?_ ?_<;>intro hc3
  ·have hD : decide (a = b) = false := by rw [decide_eq_false_iff_not]; intro h; subst h; rw [hx] at hy; injection hy with hy; exact (by simpa using hc3 : ¬ x = y) hy
   apply yb;refine ye ?_;refine X.ret ?_;refine yh ?_;all_goals (rw [hD])
  apply yf;apply yc;refine yo ?_
  refine yM (k + 1) (hJ := by
   exact ⟨by omega, by rw [← zhR hx, ← zhR hy, hk2, (by simpa using hc3 : x = y)]⟩) (hI := yq)
 ·have hD : decide (a = b) = true := by
   have h1 : k = a.length := by omega
   rw [decide_eq_true_iff]; subst h1; rw [List.take_length, hlen, List.take_length] at hk2; exact hk2
  apply X.exit;apply yb;refine ye ?_;refine X.ret ?_;refine yh ?_;all_goals (rw [hD])
theorem zcs (a b : List (List Sg)) (hl : a.length <= 4000000000) (hr : ∀ x ∈ a, x.length <= 4000000000) : Fn Tryz.prog 42 [z8 a, z8 b] (.bool (decide (a = b))) := by
 refine Fn.go Tryz.func42 Tryz.ntmps42 (fun g w d => ?_);apply yb;refine ye ?_;apply yd;apply yb;refine zu ?_;refine yl rfl ?_ ?_<;>intro hc1
 ·have hD : decide (a = b) = false := by rw [decide_eq_false_iff_not]; intro h; subst h; exact hc1 rfl
  apply yb;refine ye ?_;refine X.ret ?_;refine yh ?_;all_goals (rw [hD])
 have hlen : a.length = b.length := by omega
 apply yf;apply yd;apply yb;refine ye ?_;apply X.block
 refine zl (ι := Nat) (fun (k : Nat) => [(0, z8 a), (1, z8 b), (5, iv (k : Int))]) (fun (k : Nat) => []) (fun (k : Nat) => k <= a.length /\ a.take k = b.take k) (fun (k : Nat) => a.length - k) 0 (fun k hk => ?_) (hJ := by
  exact ⟨by omega, by simp⟩) (h0 := by
  exact yq)
 obtain ⟨hk1, hk2⟩ := hk;apply yd;apply yb;refine zaj ?_;refine yl rfl ?_ ?_<;>intro hc2
 ·obtain ⟨x, hx⟩ : ∃ x, a[k]? = some x := ⟨_, lgg (by omega)⟩;have hx2 : a[(k : Int).toNat]? = some x := by simpa using hx
  obtain ⟨y, hy⟩ : ∃ y, b[k]? = some y := ⟨_, lgg (by omega)⟩;have hy2 : b[(k : Int).toNat]? = some y := by simpa using hy
  have hxl := hr x (List.mem_of_getElem? hx);apply yf;apply yd;apply X.block;apply yd;refine zz [17,18,19,20,21,22,23,24,25,26] [0,0,3,7,0,0,48,112,255,511] mo ?_;iterate 8 refine yk ?_
  refine y9 (zac x y hxl) ?_;refine yk ?_;refine yX ?_;apply Ex.nil;refine yl rfl ?_ ?_<;>intro hc3
  ·have hD : decide (a = b) = false := by rw [decide_eq_false_iff_not]; intro h; subst h; rw [hx] at hy; injection hy with hy; exact (by simpa using hc3 : ¬ x = y) hy
   apply yb;refine ye ?_;refine X.ret ?_;refine yh ?_;all_goals (rw [hD])
  apply yf;apply yc;refine yo ?_
  refine yM (k + 1) (hJ := by
   exact ⟨by omega, by rw [← zhR hx, ← zhR hy, hk2, (by simpa using hc3 : x = y)]⟩) (hI := yq)
 ·have hD : decide (a = b) = true := by
   have h1 : k = a.length := by omega
   rw [decide_eq_true_iff]; subst h1; rw [List.take_length, hlen, List.take_length] at hk2; exact hk2
  apply X.exit;apply yb;refine ye ?_;refine X.ret ?_;refine yh ?_;all_goals (rw [hD])
theorem yY (l : List Tm) (hl : l.length <= 1000) : Fn Tryz.prog 7 [tmsA l] (btsA (l.map btT)) := by
 have hz0 : [] = (l.take 0).map btT := by simp
 refine Fn.go Tryz.func7 Tryz.ntmps7 (fun g w d => ?_);apply yb;refine ya ?_;apply yi;refine ye ?_;iterate 2 apply yd
 refine X.imp (ze btE 76 3 3 30 rfl rfl) ?_;apply yc;refine ye ?_;apply X.block
 refine zl (ι := Nat) (fun (k : Nat) => [(0, tmsA l), (3, .own 30), (4, iv (k : Int))]) (fun (k : Nat) => [(30, .row btE ((l.take k).map btT) 76 3)]) (fun (k : Nat) => k <= l.length) (fun (k : Nat) => l.length - k) 0 (fun k hk => ?_) (h0 := by
  exact yq)
 apply yd;apply yb;refine zaj ?_;refine yl rfl ?_ ?_<;>intro hc1
 ·obtain ⟨x, hx⟩ : ∃ x, l[k]? = some x := ⟨_, lgg (by omega)⟩;have hx2 : l[(k : Int).toNat]? = some x := by simpa using hx
  have hst := zrm hx;have hlt := znj btT l k;apply yf;apply yd;apply X.block;apply yc;iterate 6 refine ya ?_
  refine yW btE [⟨x, false⟩] ?_;refine Ex.mo ?_;refine ye ?_;apply yc;refine yo ?_;refine yM (k + 1) (hI := yq)
 ·obtain rfl : k = l.length := by omega
  have hV : (l.take l.length).map btT = l.map btT := by rw [List.take_length]
  apply X.exit;apply yb;refine yg ?_;refine X.ret ?_;refine RetQ.imp (Imp.freeze (k := 30) rfl) ?_;refine yh ?_;all_goals (exact congrArg (fun z => btsA z) hV)
set_option maxHeartbeats 1000000 in
theorem zcN (m : Mn) (z : List Bt) (n : Int) (W : List (List Sg)) (hl : z.length <= 4000000000) (hw : (wlV m z (hbM n)).length <= 4000000000) (hr : ∀ x ∈ wlV m z (hbM n), x.length <= 4000000000) : Fn Tryz.prog 14 [mnA m, btsA z, iv n, z8 W] (.bool (decide (wcnE m z (hbM n) = 0) && decide (wlV m z (hbM n) = W))) := by
 refine Fn.go Tryz.func14 Tryz.ntmps14 (fun g w d => ?_);apply yb;refine yF ?_;refine ye ?_;apply yd;refine zz [9,10,11,12,13,14,15,16,17,18] [0,0,0,4,15,31,63,63,127,511] mo ?_;iterate 3 refine yk ?_
 refine y9 (zg n) ?_;refine y9 (zaY m z (hbM n) hl) ?_;iterate 5 refine yk ?_
 refine yX ?_;apply yi;iterate 2 refine ya ?_
 refine ExF.at 2 ?_;refine yG ?_;iterate 2 refine ExF.gi ?_
 refine ExF.cg (zcs (wlV m z (hbM n)) W hw hr) ?_;refine yH ?_;refine yg ?_;refine X.ret ?_;refine yh ?_;all_goals (first | rfl | (simp_all; done))
end Go.Rse
namespace Go.Rse
open Go Go.Proofs
theorem znk (a b : Hb) : eqL (hbE a) (hbE b) = some (decide (a = b)) := by
 cases a; cases b;refine (zb rfl (zb rfl (zb rfl rfl))).trans ?_;simp only [Hb.mk.injEq, Bool.decide_and, Bool.and_assoc, Bool.and_true, Bool.beq_eq_decide_eq]
theorem znl (m : Mn) (z : List Bt) : (miV m z).length <= 8 := by
 unfold miV; split
 ·exact zi3 m z 8
 ·simp
def ndQ (m : Mn) (z : List Bt) (W : List Int) : Bool := decide (wcnE m z (hbN 7) = 0) && decide (miV m z = W.map hbM)
theorem zui {m : Mn} {z : List Bt} {W : List Int} (h : ¬ wcnE m z (hbN 7) = 0 \/ ¬ ((miV m z).length : Int) = (W.length : Int)) : ndQ m z W = false := by
 unfold ndQ;rcases h with h | h
 ·rw [decide_eq_false h]; rfl
 ·rw [decide_eq_false (p := miV m z = W.map hbM) (fun e => h (by rw [e, List.length_map])), Bool.and_false]
theorem zuj {m : Mn} {z : List Bt} {W : List Int} {k : Nat} {x : Hb} {y : Int} (hx : (miV m z)[k]? = some x) (hy : W[k]? = some y) (h : ¬ x = hbM y) : ndQ m z W = false := by
 unfold ndQ;rw [decide_eq_false (p := miV m z = W.map hbM) (fun e => by rw [e, List.getElem?_map, hy] at hx; injection hx with hx; exact h hx.symm), Bool.and_false]
theorem zuk {m : Mn} {z : List Bt} {W : List Int} (h0 : wcnE m z (hbN 7) = 0) (h : (miV m z).length = W.length) (h2 : (miV m z).take (miV m z).length = (W.take (miV m z).length).map hbM) : ndQ m z W = true := by
 unfold ndQ;rw [List.take_length, h, List.take_length] at h2;rw [h0, h2]; simp
theorem zul {a : List Hb} {W : List Int} {k : Nat} {x : Hb} {y : Int} (hx : a[k]? = some x) (hy : W[k]? = some y) (h : a.take k = (W.take k).map hbM) (e : x = hbM y) : a.take (k + 1) = (W.take (k + 1)).map hbM := by
 rw [List.take_add_one, hx, List.take_add_one, hy, List.map_append, h, e]; rfl
attribute [local irreducible] Pur yC yE Ex X Fn Imp LeV LeB FnO It yJ FnW FnOW FnP FnD
attribute [local irreducible] miV hbM hbN wcnE ndQ
set_option maxHeartbeats 1000000 in
theorem zdH (m : Mn) (z : List Bt) (W : List Int) (hl : z.length <= 4000000000) : Fn Tryz.prog 18 [mnA m, btsA z, ym W] (.bool (ndQ m z W)) := by
 have hm8 := znl m z;refine Fn.go Tryz.func18 Tryz.ntmps18 (fun g w d => ?_);apply yb;refine yF ?_;refine ya ?_;apply yi;iterate 2 refine ya ?_
 refine yj (zd3 m z hl) ?_;refine zu ?_;apply yd;apply yb;iterate 2 refine ya ?_
 refine ExF.at 2 ?_;refine yG ?_;iterate 5 refine ExF.gi ?_
 refine yH ?_;refine ye ?_;refine yl rfl ?_ ?_<;>intro hc1
 ·have hD := zui (m := m) (z := z) (W := W) (by simpa using hc1);apply yb;refine ye ?_;refine X.ret ?_;refine yh ?_;all_goals (rw [hD])
 have hE : wcnE m z (hbN 7) = 0 /\ ((miV m z).length : Int) = (W.length : Int) := by simpa using hc1
 have hlen : (miV m z).length = W.length := by omega
 apply yf;apply yd;apply yb;refine ye ?_;apply X.block
 refine zl (ι := Nat) (fun (k : Nat) => [(2, ym W), (7, .sl hbE (miV m z)), (9, iv (k : Int))]) (fun (k : Nat) => []) (fun (k : Nat) => k <= (miV m z).length /\ (miV m z).take k = (W.take k).map hbM) (fun (k : Nat) => (miV m z).length - k) 0 (fun k hk => ?_) (hJ := by
  exact ⟨by omega, by simp⟩) (h0 := by
  exact yq)
 obtain ⟨hk1, hk2⟩ := hk;apply yd;apply yb;refine zaj ?_;refine yl rfl ?_ ?_<;>intro hc2
 ·obtain ⟨x, hx⟩ : ∃ x, (miV m z)[k]? = some x := ⟨_, lgg (by omega)⟩;have hx2 : (miV m z)[(k : Int).toNat]? = some x := by simpa using hx
  obtain ⟨y, hy⟩ : ∃ y, W[k]? = some y := ⟨_, lgg (by omega)⟩;have hy2 : W[(k : Int).toNat]? = some y := by simpa using hy
  apply yf;apply yd;apply X.block;apply yd;refine zz [31,32,33,34,35,36,37,38,39,40] [0,0,3,7,0,0,48,112,240,511] mo ?_;iterate 8 refine yk ?_
  refine y9 (zg y) ?_;refine yk ?_ (hs := by exact zbS (znk _ _) inferInstance TyK.h rfl rfl rfl rfl rfl);refine yX ?_;apply Ex.nil;refine yl rfl ?_ ?_<;>intro hc3
  ·have hD := zuj hx hy (by simpa using hc3);apply yb;refine ye ?_;refine X.ret ?_;refine yh ?_;all_goals (rw [hD])
  apply yf;apply yc;refine yo ?_
  refine yM (k + 1) (hJ := by
   exact ⟨by omega, zul hx hy hk2 (by simpa using hc3)⟩) (hI := yq)
 ·obtain rfl : k = (miV m z).length := by omega
  have hD := zuk hE.1 hlen hk2;apply X.exit;apply yb;refine ye ?_;refine X.ret ?_;refine yh ?_;all_goals (rw [hD])
end Go.Rse
namespace Go.Rse
open Go Go.Proofs
def wr24 (m : Mn) (l : List Tm) (n : Int) (W : List (List Sg)) : Bool := decide (wcnE m (l.map btT) (hbM n) = 0) && decide (wlV m (l.map btT) (hbM n) = W)
abbrev tMi : List Tm := [⟨3, 2⟩, ⟨1, 2⟩]
abbrev W1 : List (List Sg) := [[npS 3, npS 4, npS 3]]
abbrev W2 : List (List Sg) := [[nbS 4, nbS 5], [npS 5, dtS, npS 6], [npS 5, dtS, nbS 6, dtS]]
theorem zrn : wr24 mOh [⟨4, 1⟩, ⟨2, 1⟩, ⟨6, 1⟩] 0 W1 = true := by kernel_rfl
theorem zro : wr24 mCe tMi 7 W2 = true := by kernel_rfl
theorem zrp : ndQ mCe (tMi.map btT) [2, 4] = true := by kernel_rfl
theorem zrq : wr24 mCe tMi 4 [[nbS 4, nbS 5]] = true := by kernel_rfl
theorem zrr : wr24 mOh [⟨2, 1⟩, ⟨4, 1⟩, ⟨6, 1⟩] 0 [] = true := by kernel_rfl
theorem zrs : wr24 mOh [⟨3, 1⟩, ⟨1, 1⟩] 2 [[npS 4, dtS, npS 5]] = true := by kernel_rfl
theorem zrt : ndQ mOh ([⟨4, 1⟩, ⟨2, 1⟩, ⟨6, 1⟩].map btT) [0] = true := by kernel_rfl
theorem zru : ndQ mOh ([⟨5, 1⟩].map btT) [] = true := by kernel_rfl
end Go.Rse
namespace Go.Rse
open Go Go.Proofs
attribute [local irreducible] Pur yC yE Ex X Fn Imp LeV LeB FnO It yJ FnW FnOW FnP FnD
attribute [local irreducible] wcnE wlV hbM ndQ btT gI
theorem zay (n e : Int) (t : Tm) (h : (decide (0 <= n) && (decide (1 <= e) && (decide (n <= 4294967296) && (decide (e <= 4294967296) && decide ((⟨n / gI n e, e / gI n e⟩ : Tm) = t))))) = true) : Fn Tryz.prog 8 [iv n, iv e] (tmA t) := by
 simp only [Bool.and_eq_true, decide_eq_true_iff] at h;obtain ⟨a, b, c, d, e'⟩ := h;have := zfn n e a b c d;rw [e'] at this; exact this
theorem zf0 {m : Mn} {l : List Tm} {n : Int} {W : List (List Sg)} (e : wr24 m l n W = true) (hl : l.length <= 1000) : Fn Tryz.prog 14 [mnA m, btsA (l.map btT), iv n, z8 W] (.bool true) := by
 unfold wr24 at e;have e2 := e;rw [Bool.and_eq_true, decide_eq_true_iff, decide_eq_true_iff] at e2;have h1 := zmB e2.1;have c := zcN m (l.map btT) n W (by rw [List.length_map]; omega) (by omega) (fun x hx => by have := h1.2 x hx; omega);rw [e] at c; exact c
theorem zjy {m : Mn} {l : List Tm} {W : List Int} (e : ndQ m (l.map btT) W = true) (hl : l.length <= 1000) : Fn Tryz.prog 18 [mnA m, btsA (l.map btT), ym W] (.bool true) := by
 have c := zdH m (l.map btT) W (by rw [List.length_map]; omega);rw [e] at c; exact c
set_option maxHeartbeats 4000000 in
set_option maxRecDepth 100000 in
theorem zdI  : Fn Tryz.prog 25 [] (.bool true) := by
 refine Fn.go Tryz.func25 Tryz.ntmps25 (fun g w d => ?_);apply yb;refine ya ?_;apply yi;refine yj (zay 3 2 ⟨3, 2⟩ (by kernel_rfl)) ?_;refine yj (zay 1 2 ⟨1, 2⟩ (by kernel_rfl)) ?_;refine Ex.stepA (yy (enc := tmE) (l := tMi) sl54 ty25 ze25 (by decide) rfl rfl rfl rfl (by decide) (by decide) (fun _ => rfl) rfl) rfl rfl ?_;refine yj (yY tMi (by decide)) ?_;refine ya ?_;apply yi;refine yj yQ ?_;refine yj (zay 4 1 ⟨4, 1⟩ (by kernel_rfl)) ?_;refine yj (zay 2 1 ⟨2, 1⟩ (by kernel_rfl)) ?_;refine yj (zay 6 1 ⟨6, 1⟩ (by kernel_rfl)) ?_;refine Ex.stepA (yy (enc := tmE) (l := [⟨4, 1⟩, ⟨2, 1⟩, ⟨6, 1⟩]) sl54 ty25 ze25 (by decide) rfl rfl rfl rfl (by decide) (by decide) (fun _ => rfl) rfl) rfl rfl ?_;refine yj (yY [⟨4, 1⟩, ⟨2, 1⟩, ⟨6, 1⟩] (by decide)) ?_;refine yj (yI 3) ?_;refine yj (yI 4) ?_;refine yj (yI 3) ?_;refine Ex.stepA (yy (enc := sgE) (l := [npS 3, npS 4, npS 3]) sl27 ty41 ze41 (by decide) rfl rfl rfl rfl (by decide) (by decide) (fun _ => rfl) rfl) rfl rfl ?_;refine Ex.stepA (yy (enc := sgsE) (l := W1) sl55 ty27 ze27 (by decide) rfl rfl rfl rfl (by decide) (by decide) (fun _ => rfl) rfl) rfl rfl ?_;refine yj (zf0 zrn (by decide)) ?_;refine ExF.at 12 ?_;refine yG ?_;refine ExF.cg zA ?_;refine ExF.gi ?_;refine ExF.cg (zo 4) ?_;refine ExF.cg (zo 5) ?_;refine ExF.gs (yy (enc := sgE) (l := [nbS 4, nbS 5]) sl27 ty41 ze41 (by decide) rfl rfl rfl rfl (by decide) (by decide) (fun _ => rfl) rfl) ?_;refine ExF.cg (yI 5) ?_;refine ExF.cg zQ ?_;refine ExF.cg (yI 6) ?_;refine ExF.gs (yy (enc := sgE) (l := [npS 5, dtS, npS 6]) sl27 ty41 ze41 (by decide) rfl rfl rfl rfl (by decide) (by decide) (fun _ => rfl) rfl) ?_;refine ExF.cg (yI 5) ?_;refine ExF.cg zQ ?_;refine ExF.cg (zo 6) ?_;refine ExF.cg zQ ?_;refine ExF.gs (yy (enc := sgE) (l := [npS 5, dtS, nbS 6, dtS]) sl27 ty41 ze41 (by decide) rfl rfl rfl rfl (by decide) (by decide) (fun _ => rfl) rfl) ?_;refine ExF.gs (yy (enc := sgsE) (l := W2) sl55 ty27 ze27 (by decide) rfl rfl rfl rfl (by decide) (by decide) (fun _ => rfl) rfl) ?_;refine ExF.cg (zf0 zro (by decide)) ?_;iterate 2 refine yG ?_
 refine ExF.cg zA ?_;refine ExF.gi ?_;refine ExF.gs (yy (enc := intE) (l := [2, 4]) sl59 ty3 ze3 (by decide) rfl rfl rfl rfl (by decide) (by decide) (fun _ => rfl) rfl) ?_;refine ExF.cg (zjy zrp (by decide)) ?_;refine yH ?_;refine yg ?_;refine X.ret ?_;refine yh ?_;all_goals (first | rfl | simp)
end Go.Rse
