/-
  Walks.
-/
import Derived.Test.YtkpbljifckjeoaaGreatDoorYJWrs2
set_option linter.unusedSimpArgs false
set_option linter.unusedVariables false
namespace Go.Rse
open Go Go.Proofs
section
def wgC (x y : Wg) : Int := orV [cmpI x.n y.n, cmpI x.c y.c]
def mwF : List Wg -> Wg -> Wg
 | [], a => a
 | x :: r, a => mwF r (if wgC x a < 0 then x else a)
theorem zka (x : Wg) : ∀ (l : List Wg) (a : Wg), mwF (l ++ [x]) a = if wgC x (mwF l a) < 0 then x else mwF l a
 | [], a => rfl
 | y :: r, a => by show mwF (r ++ [x]) _ = _; rw [zka x r]; rfl
def mwK (l : List Wg) (k : Nat) : Wg := mwF ((l.take k).drop 1) (l.getD 0 default)
def mwV (l : List Wg) : Wg := mwK l l.length
theorem zvy (l : List Wg) : mwK l 1 = l.getD 0 default := by
 unfold mwK;cases l <;> simp [mwF]
theorem zvz {l : List Wg} {k : Nat} {x : Wg} (hk : 1 <= k) (h : l[k]? = some x) : mwK l (k + 1) = if wgC x (mwK l k) < 0 then x else mwK l k := by
 unfold mwK;rw [List.take_add_one, h]
 have : ((l.take k) ++ (some x).toList).drop 1 = (l.take k).drop 1 ++ [x] := by
  rw [List.drop_append_of_le_length (by have := (List.getElem?_eq_some_iff.1 h).1; rw [List.length_take]; omega)]; rfl
 rw [this, zka]
def beE (m : Mn) (l : List Bt) (h : Hb) : Int := if wcnE m l h = 0 then (if (wlV m l h).length = 0 then 18 else 0) else wcnE m l h
def beV (m : Mn) (l : List Bt) (h : Hb) : List Sg := if beE m l h = 0 then (mwV ((wlV m l h).map wgV)).r else []
theorem zxW {m : Mn} {l : List Bt} {h : Hb} (c : ¬ wcnE m l h = 0) : beE m l h = wcnE m l h /\ beV m l h = [] := by
 have e : beE m l h = wcnE m l h := by unfold beE; rw [if_neg c]
 exact ⟨e, by unfold beV; rw [e, if_neg c]⟩
theorem zxX {m : Mn} {l : List Bt} {h : Hb} (c : wcnE m l h = 0) (c2 : (wlV m l h).length = 0) : beE m l h = 18 /\ beV m l h = [] := by
 have e : beE m l h = 18 := by unfold beE; rw [if_pos c, if_pos c2]
 exact ⟨e, by unfold beV; rw [e]; rfl⟩
theorem zxY {m : Mn} {l : List Bt} {h : Hb} (c : wcnE m l h = 0) (c2 : ¬ (wlV m l h).length = 0) : beE m l h = 0 /\ beV m l h = (mwV ((wlV m l h).map wgV)).r := by
 have e : beE m l h = 0 := by unfold beE; rw [if_pos c, if_neg c2]
 exact ⟨e, by unfold beV; rw [if_pos e]⟩
theorem zk4 {m : Mn} {l : List Bt} {h : Hb} (c : wcnE m l h = 0) : (wlV m l h).length <= 4096 /\ ∀ x ∈ wlV m l h, x.length <= 24 := by
 have h1 := zou c;have h2 := zjp c;unfold wlV; rw [if_pos c];exact ⟨h1, fun x hx => by have := zl7 hx; omega⟩
theorem zvA {L : List (List Sg)} {k : Nat} {x : List Sg} (h : L[k]? = some x) : (L.take k).map wgV ++ [wgV x] = (L.take (k + 1)).map wgV := by
 rw [List.take_add_one, h]; simp
def unE2 (m : Mn) (r : List Sg) (n : Mn) (h : Hb) : Int := if rdE m r = 0 then beE n (bsV m r) h else rdE m r
def unV2 (m : Mn) (r : List Sg) (n : Mn) (h : Hb) : List Sg := if rdE m r = 0 then beV n (bsV m r) h else []
theorem zl8 (m : Mn) (l : List Sg) : (bsV m l).length <= l.length := by
 unfold bsV;split
 ·unfold zbV; rw [List.length_zipWith]; have := zjl l; omega
 ·simp
def skE (m : Mn) (a : List Sg) (n : Mn) (b : List Sg) : Int := if ckD m a = 0 then ckD n b else ckD m a
def skB (m : Mn) (a : List Sg) (n : Mn) (b : List Sg) : Bool := if skE m a n b = 0 then decide (rdE m a = 0) && (decide (rdE n b = 0) && decide (bsV m a = bsV n b)) else false
theorem zxZ {m n : Mn} {a b : List Sg} (c : ¬ ckD m a = 0) : skE m a n b = ckD m a /\ skB m a n b = false := by
 have e : skE m a n b = ckD m a := by unfold skE; rw [if_neg c]
 exact ⟨e, by unfold skB; rw [e, if_neg c]⟩
theorem zx0 {m n : Mn} {a b : List Sg} (c : ckD m a = 0) (c2 : ¬ ckD n b = 0) : skE m a n b = ckD n b /\ skB m a n b = false := by
 have e : skE m a n b = ckD n b := by unfold skE; rw [if_pos c]
 exact ⟨e, by unfold skB; rw [e, if_neg c2]⟩
theorem zx1 {m n : Mn} {a b : List Sg} (c : ckD m a = 0) (c2 : ckD n b = 0) : skE m a n b = 0 /\ skB m a n b = (decide (rdE m a = 0) && (decide (rdE n b = 0) && decide (bsV m a = bsV n b))) := by
 have e : skE m a n b = 0 := by unfold skE; rw [if_pos c, c2]
 exact ⟨e, by unfold skB; rw [if_pos e]⟩
attribute [local irreducible] Pur yr yw Ex X Fn Imp LeV LeB FnO It yx FnW FnOW FnP FnD
attribute [local irreducible] wcE wcnE wcnV rdE rdV wlV mwK bsV ckD wgV beE beV orV cmpI
theorem zfm (x y : Wg) : Fn Tryz.prog 39 [wgA x, wgA y] (iv (wgC x y)) := by
 refine Fn.go Tryz.func39 Tryz.ntmps39 (fun g w d => ?_);refine gq ?_;refine zf [4,5,6,7,8,9,10,11,12,13,14,15,16] [0,1,0,4,15,0,32,0,128,511,1023,2047,4095] mo ?_;iterate 4 refine yc ?_
 refine yM (zT x.n y.n) ?_;iterate 4 refine yc ?_
 refine yM (zT x.c y.c) ?_;refine ChM.step rfl rfl rfl (zac (enc := intE) (l := [cmpI x.n y.n, cmpI x.c y.c]) sl59 ty3 ze3) rfl ?_;refine yM (zfh [cmpI x.n y.n, cmpI x.c y.c] (by simp)) ?_;refine yc ?_;refine yE ?_;refine gq ?_;all_goals (first | rfl | (simp_all; done))
set_option maxHeartbeats 2000000 in
theorem zJ (l : List Wg) (h0 : 0 < l.length) (hl : l.length <= 1000000) : Fn Tryz.prog 38 [.sl wgE l, .fn 39 []] (wgA (mwV l)) := by
 obtain ⟨x0, hx0⟩ : ∃ x, l[0]? = some x := ⟨_, lgg h0⟩;have hx1 : l[(0 : Int).toNat]? = some x0 := hx0;have hx2 : wgE x0 = wgE (mwK l 1) := by rw [zvy, List.getD_eq_getElem?_getD, hx0]; rfl
 refine Fn.go Tryz.func38 Tryz.ntmps38 (fun g w d => ?_);refine gd ?_ ?_<;>intro hc1
 ·omega
 refine gq ?_
 refine yS (ι := Nat) (fun (k : Nat) => [(0, .sl wgE l), (1, .fn 39 []), (4, .ptr 4 0 0 0), (5, .ptr 5 0 0 0), (6, iv (k : Int))]) (fun (k : Nat) => [(4, .box [iv 0, iv 0, .nils] 80), (5, .box (wgE (mwK l k)) 80)]) (fun (k : Nat) => 1 <= k /\ k <= l.length) (fun (k : Nat) => l.length - k) 1 (fun k hk => ?_) (hJ := by
  exact ⟨by omega, by omega⟩) (h0 := by
  exact yd)
 obtain ⟨hk1, hk2⟩ := hk;refine gd ?_ ?_<;>intro hc2
 ·obtain ⟨x, hx⟩ : ∃ x, l[k]? = some x := ⟨_, lgg (by omega)⟩;have hxx : l[(k : Int).toNat]? = some x := by simpa using hx
  have hst := zvz hk1 hx;refine gq ?_;refine zf [20,21,22,23,24,25,26,27] [0,0,0,6,14,0,63,127] mo ?_;iterate 6 refine yc ?_
  refine yM (zfm x (mwK l k)) ?_;refine yc ?_;refine yE ?_;refine gd ?_ ?_<;>intro hc3
  ·rw [if_pos hc3] at hst;have hst2 : wgE x = wgE (mwK l (k + 1)) := by rw [hst]
   refine gq ?_
   refine yz (k + 1) (hJ := by
    exact ⟨by omega, by omega⟩) (hI := yd)
  ·rw [if_neg (by omega)] at hst;have hst2 : wgE (mwK l k) = wgE (mwK l (k + 1)) := by rw [hst]
   refine gq ?_
   refine yz (k + 1) (hJ := by
    exact ⟨by omega, by omega⟩) (hI := yd)
 ·obtain rfl : k = l.length := by omega
  refine gq ?_;refine RetQ.ret (.one (.cellA rfl rfl rfl rfl ty80 (LeV.eq ?_)));all_goals (first | rfl | (simp_all; done))
set_option maxHeartbeats 2000000 in
theorem zbt (m : Mn) (z : List Bt) (q : Hb) (hl : z.length <= 4000000000) : Fn Tryz.prog 9 [mnA m, btsA z, hbA q] (.tup [sgsA (beV m z q), iv (beE m z q)]) := by
 refine Fn.go Tryz.func9 Tryz.ntmps9 (fun g w d => ?_);refine gq ?_;refine yb (zan m z q hl) ?_;refine gd ?_ ?_<;>intro hc1
 ·have hZ1 := zxW hc1;obtain ⟨hE, hV⟩ := hZ1;apply yg;refine zh ?_;refine X.ret ?_;refine RetQ.imp (ye (ts := [(6, sgsA []), (7, iv (wcnE m z q))]) (hs := [])) ?_;refine yi ?_ ?_;all_goals (first | (rw [hE]; done) | (rw [hV]; done) | (rw [hE]; rfl) | (rw [hV]; rfl))
 have h0 : wcnE m z q = 0 := by omega
 have hZ2 := zk4 h0;obtain ⟨hln, hlx⟩ := hZ2;refine gd ?_ ?_<;>intro hc2
 ·have hZ3 := zxX h0 (by omega);obtain ⟨hE, hV⟩ := hZ3;apply yg;refine zm ?_;refine X.ret ?_;refine RetQ.imp (ye (ts := [(6, sgsA []), (7, iv 18)]) (hs := [])) ?_;refine yi ?_ ?_;all_goals (first | (rw [hE]; done) | (rw [hV]; done) | (rw [hE]; rfl) | (rw [hV]; rfl))
 have hZ4 := zxY h0 (by omega);obtain ⟨hE, hV⟩ := hZ4;have hz0 : [] = ((wlV m z q).take 0).map wgV := rfl;apply yp;apply yg;refine yu ?_;iterate 2 apply yl
 refine X.imp (yL wgE 80 3 10 30 rfl rfl) ?_;refine gq ?_
 refine yS (ι := Nat) (fun (k : Nat) => [(10, .own 30), (27, zF (wlV m z q)), (28, iv ((wlV m z q).length : Int)), (29, iv (k : Int))]) (fun (k : Nat) => [(30, .row wgE (((wlV m z q).take k).map wgV) 80 3)]) (fun (k : Nat) => k <= (wlV m z q).length) (fun (k : Nat) => (wlV m z q).length - k) 0 (fun k hk => ?_) (hJ := by
  exact Nat.zero_le _) (h0 := by
  exact yd)
 refine gd ?_ ?_<;>intro hc3
 ·obtain ⟨x, hx⟩ : ∃ x, (wlV m z q)[k]? = some x := ⟨_, lgg (by omega)⟩;have hxx : (wlV m z q)[(k : Int).toNat]? = some x := by simpa using hx
  have hst := zvA hx;have hxl := hlx x (List.mem_of_getElem? hx);have hmm : (((wlV m z q).take k).map wgV).length <= 4096 := by rw [List.length_map, List.length_take]; omega
  refine gq ?_;refine yb (zfH x (by omega)) ?_;refine yJ wgE [wgV x] ?_;refine gq ?_;refine yz (k + 1) (hI := yd)
 ·obtain rfl : k = (wlV m z q).length := by omega
  have htk : ((wlV m z q).take (wlV m z q).length).map wgV = (wlV m z q).map wgV := by rw [List.take_length]
  have hMin := zJ ((wlV m z q).map wgV) (by rw [List.length_map]; omega) (by rw [List.length_map]; omega);rw [← htk] at hMin hV;apply X.exit;apply yg;refine ya ?_;refine Ex.imp (Imp.freeze (k := 30) rfl) ?_;refine yb hMin ?_;refine gq ?_;refine yi ?_ ?_;all_goals (first | (rw [hE]; done) | (rw [hV]; done) | (rw [hE]; rfl) | (rw [hV]; rfl))
theorem zcH (m : Mn) (r : List Sg) (n : Mn) (q : Hb) (hl : r.length <= 1000) : Fn Tryz.prog 20 [mnA m, sgsA r, mnA n, hbA q] (.tup [sgsA (unV2 m r n q), iv (unE2 m r n q)]) := by
 refine Fn.go Tryz.func20 Tryz.ntmps20 (fun g w d => ?_);refine gq ?_;refine yb (zau m r hl) ?_;refine gd ?_ ?_<;>intro hc1
 ·have hE : unE2 m r n q = rdE m r := by unfold unE2; rw [if_neg hc1]
  have hV : unV2 m r n q = [] := by unfold unV2; rw [if_neg hc1]
  apply yg;refine zh ?_;refine X.ret ?_;refine RetQ.imp (ye (ts := [(8, sgsA []), (9, iv (rdE m r))]) (hs := [])) ?_;refine yi ?_ ?_;all_goals (first | (rw [hE]; done) | (rw [hV]; done) | (rw [hE]; rfl) | (rw [hV]; rfl))
 have h0 : rdE m r = 0 := by omega
 have hE : unE2 m r n q = beE n (bsV m r) q := by unfold unE2; rw [if_pos h0]
 have hV : unV2 m r n q = beV n (bsV m r) q := by unfold unV2; rw [if_pos h0]
 refine gq ?_;refine yb (zbt n (bsV m r) q (by have := zl8 m r; omega)) ?_;refine gq ?_;refine yi ?_ ?_;all_goals (first | (rw [hE]; done) | (rw [hV]; done) | (rw [hE]; rfl) | (rw [hV]; rfl))
set_option maxHeartbeats 2000000 in
theorem zcI (m : Mn) (a : List Sg) (n : Mn) (b : List Sg) (ha : a.length <= 1000) (hb : b.length <= 1000) : Fn Tryz.prog 22 [mnA m, sgsA a, mnA n, sgsA b] (.tup [.bool (skB m a n b), iv (skE m a n b)]) := by
 refine Fn.go Tryz.func22 Tryz.ntmps22 (fun g w d => ?_);refine gq ?_;refine yb (zal m a (by omega)) ?_;refine gd ?_ ?_<;>intro hc1
 ·have hZ1 := zxZ (n := n) (b := b) hc1;obtain ⟨hE, hV⟩ := hZ1;refine gq ?_;refine yi ?_ ?_;all_goals (first | (rw [hE]; done) | (rw [hV]; done) | (rw [hV, Bool.and_assoc]; done))
 have h1 : ckD m a = 0 := by omega
 refine gq ?_;refine yb (zal n b (by omega)) ?_;refine gd ?_ ?_<;>intro hc2
 ·have hZ2 := zx0 h1 hc2;obtain ⟨hE, hV⟩ := hZ2;refine gq ?_;refine yi ?_ ?_;all_goals (first | (rw [hE]; done) | (rw [hV]; done) | (rw [hV, Bool.and_assoc]; done))
 have h2 : ckD n b = 0 := by omega
 have hZ3 := zx1 h1 h2;obtain ⟨hE, hV⟩ := hZ3;refine gq ?_;refine yb (zau m a ha) ?_;refine gq ?_;refine yb (zau n b hb) ?_;iterate 5 refine ya ?_
 apply yI;iterate 2 refine ya ?_
 refine ExF.at 2 ?_;refine gq ?_;refine ExF.cg (za2 (bsV m a) (bsV n b) (by have := zl8 m a; omega)) ?_;refine ge ?_;refine yi ?_ ?_;all_goals (first | (rw [hE]; done) | (rw [hV]; done) | (rw [hV, Bool.and_assoc]; done))
end
section
def wq (m : Mn) (z : List Bt) (v : Int) : Bool := decide (¬ (wyX m z (hbN v)).length = 0)
def hv (m : Mn) (z : List Bt) (n v : Nat) : Bool := decide (v < n) && wq m z (v : Int)
abbrev hsC (m : Mn) (z : List Bt) (n : Nat) : List AV := [.bool (hv m z n 0), .bool (hv m z n 1), .bool (hv m z n 2), .bool (hv m z n 3), .bool (hv m z n 4), .bool (hv m z n 5), .bool (hv m z n 6), .bool (hv m z n 7)]
theorem zjq (m : Mn) (z : List Bt) (n : Nat) : (hsC m z n).length = 8 := rfl
theorem zgw {m : Mn} {z : List Bt} {n i : Nat} (h : i < 8) : (hsC m z n)[0 * 0 + (0 + (i : Int).toNat * 1)]? = some (.bool (decide (i < n) && wq m z (i : Int))) := by
 have h8 : i = 0 \/ i = 1 \/ i = 2 \/ i = 3 \/ i = 4 \/ i = 5 \/ i = 6 \/ i = 7 := by omega
 rcases h8 with rfl | rfl | rfl | rfl | rfl | rfl | rfl | rfl <;> rfl
theorem zr {m : Mn} {z : List Bt} {n v : Nat} (h : ¬ v = n) : hv m z n v = hv m z (n + 1) v := by
 unfold hv; congr 1; simp; omega
theorem zx2 {m : Mn} {z : List Bt} {n : Nat} (hq : wq m z (n : Int) = true) : true = hv m z (n + 1) n := by unfold hv; rw [hq]; simp
theorem zx3 {m : Mn} {z : List Bt} {n v : Nat} (hq : wq m z (n : Int) = false) : hv m z n v = hv m z (n + 1) v := by
 by_cases h : v = n
 ·subst h; unfold hv; rw [hq]; simp
 ·exact zr h
theorem zp9 {m : Mn} {z : List Bt} {n : Nat} (h : n < 8) (hq : wq m z (n : Int) = true) : setAt (hsC m z n) (0 * 0 + (0 + (n : Int).toNat * 1)) [.bool true] = hsC m z (n + 1) := by
 have e := zx2 hq;have h8 : n = 0 \/ n = 1 \/ n = 2 \/ n = 3 \/ n = 4 \/ n = 5 \/ n = 6 \/ n = 7 := by omega
 unfold hsC;rcases h8 with rfl | rfl | rfl | rfl | rfl | rfl | rfl | rfl
 ·rw [← e, ← zr (n := 0) (v := 1) (by decide), ← zr (n := 0) (v := 2) (by decide), ← zr (n := 0) (v := 3) (by decide), ← zr (n := 0) (v := 4) (by decide), ← zr (n := 0) (v := 5) (by decide), ← zr (n := 0) (v := 6) (by decide), ← zr (n := 0) (v := 7) (by decide)]; rfl
 ·rw [← e, ← zr (n := 1) (v := 0) (by decide), ← zr (n := 1) (v := 2) (by decide), ← zr (n := 1) (v := 3) (by decide), ← zr (n := 1) (v := 4) (by decide), ← zr (n := 1) (v := 5) (by decide), ← zr (n := 1) (v := 6) (by decide), ← zr (n := 1) (v := 7) (by decide)]; rfl
 ·rw [← e, ← zr (n := 2) (v := 0) (by decide), ← zr (n := 2) (v := 1) (by decide), ← zr (n := 2) (v := 3) (by decide), ← zr (n := 2) (v := 4) (by decide), ← zr (n := 2) (v := 5) (by decide), ← zr (n := 2) (v := 6) (by decide), ← zr (n := 2) (v := 7) (by decide)]; rfl
 ·rw [← e, ← zr (n := 3) (v := 0) (by decide), ← zr (n := 3) (v := 1) (by decide), ← zr (n := 3) (v := 2) (by decide), ← zr (n := 3) (v := 4) (by decide), ← zr (n := 3) (v := 5) (by decide), ← zr (n := 3) (v := 6) (by decide), ← zr (n := 3) (v := 7) (by decide)]; rfl
 ·rw [← e, ← zr (n := 4) (v := 0) (by decide), ← zr (n := 4) (v := 1) (by decide), ← zr (n := 4) (v := 2) (by decide), ← zr (n := 4) (v := 3) (by decide), ← zr (n := 4) (v := 5) (by decide), ← zr (n := 4) (v := 6) (by decide), ← zr (n := 4) (v := 7) (by decide)]; rfl
 ·rw [← e, ← zr (n := 5) (v := 0) (by decide), ← zr (n := 5) (v := 1) (by decide), ← zr (n := 5) (v := 2) (by decide), ← zr (n := 5) (v := 3) (by decide), ← zr (n := 5) (v := 4) (by decide), ← zr (n := 5) (v := 6) (by decide), ← zr (n := 5) (v := 7) (by decide)]; rfl
 ·rw [← e, ← zr (n := 6) (v := 0) (by decide), ← zr (n := 6) (v := 1) (by decide), ← zr (n := 6) (v := 2) (by decide), ← zr (n := 6) (v := 3) (by decide), ← zr (n := 6) (v := 4) (by decide), ← zr (n := 6) (v := 5) (by decide), ← zr (n := 6) (v := 7) (by decide)]; rfl
 ·rw [← e, ← zr (n := 7) (v := 0) (by decide), ← zr (n := 7) (v := 1) (by decide), ← zr (n := 7) (v := 2) (by decide), ← zr (n := 7) (v := 3) (by decide), ← zr (n := 7) (v := 4) (by decide), ← zr (n := 7) (v := 5) (by decide), ← zr (n := 7) (v := 6) (by decide)]; rfl
theorem zta {m : Mn} {z : List Bt} {n : Nat} (hq : wq m z (n : Int) = false) : hsC m z n = hsC m z (n + 1) := by
 unfold hsC; simp only [← zx3 hq]
def lsK (m : Mn) (z : List Bt) (n : Int) (i : Nat) : Bool := wq m z n && (List.range i).all fun (j : Nat) => !(decide (andI (j : Int) n = (j : Int)) && wq m z (j : Int))
theorem zrB (m : Mn) (z : List Bt) (n : Int) : wq m z n = lsK m z n 0 := by unfold lsK; simp
theorem zl9 (m : Mn) (z : List Bt) (n : Int) (i : Nat) : lsK m z n (i + 1) = (lsK m z n i && !(decide (andI (i : Int) n = (i : Int)) && wq m z (i : Int))) := by
 unfold lsK; rw [List.range_succ, List.all_append, Bool.and_assoc]; simp
def mnF8 (m : Mn) (z : List Bt) (n : Nat) : List Hb := ((List.range n).filter fun (v : Nat) => lsK m z (v : Int) v).map fun (v : Nat) => hbN (v : Int)
theorem ztb (m : Mn) (z : List Bt) (n : Nat) : mnF8 m z (n + 1) = mnF8 m z n ++ (if lsK m z (n : Int) n = true then [hbN (n : Int)] else []) := by
 unfold mnF8;rw [List.range_succ, List.filter_append, List.map_append];congr 1;by_cases h : lsK m z (n : Int) n = true
 ·rw [if_pos h]; simp [h]
 ·rw [if_neg h]; simp [h]
theorem zkb (m : Mn) (z : List Bt) (n : Nat) : (mnF8 m z n).length <= n := by
 unfold mnF8; rw [List.length_map]; have := List.length_filter_le (fun (v : Nat) => lsK m z (v : Int) v) (List.range n); simpa using this
def miV (m : Mn) (z : List Bt) : List Hb := if wcnE m z (hbN 7) = 0 then mnF8 m z 8 else []
attribute [local irreducible] Pur yr yw Ex X Fn Imp LeV LeB FnO It yx FnW FnOW FnP FnD
attribute [local irreducible] mnF8 hbN wcE wcnE wcnV wq hv lsK wyX andI
set_option maxHeartbeats 8000000 in
theorem zeJ (m : Mn) (z : List Bt) (hl : z.length <= 4000000000) : Fn Tryz.prog 27 [mnA m, btsA z] (.tup [.sl hbE (miV m z), iv (wcnE m z (hbN 7))]) := by
 have hz0 : [] = mnF8 m z 0 := by unfold mnF8; rfl
 have hc0 : [AV.bool false, .bool false, .bool false, .bool false, .bool false, .bool false, .bool false, .bool false] = hsC m z 0 := by unfold hsC; simp [hv]
 refine Fn.go Tryz.func27 Tryz.ntmps27 (fun g w d => ?_);refine gq ?_;refine zf [6,7,13,14,15,16,17,18,19] [0,0,0,7,15,31,31,63,255] mo ?_;iterate 2 refine yc ?_
 refine yM (zag 7) ?_;refine yM (zcq m z (hbN 7) hl) ?_;iterate 5 refine yc ?_
 refine yE ?_;refine gd ?_ ?_<;>intro hc1
 ·have hV : miV m z = [] := by unfold miV; rw [if_neg hc1]
  apply yg;refine zh ?_;refine X.ret ?_;refine RetQ.imp (ye (ts := [(4, .sl hbE []), (5, iv (wcnE m z (hbN 7)))]) (hs := [])) ?_;refine yi ?_ ?_;all_goals (first | (rw [hV]; done) | exact congrArg (fun y => AV.sl hbE y) hV.symm | exact congrArg (AV.int .i64) h0.symm | rfl)
 have h0 : wcnE m z (hbN 7) = 0 := by omega
 have hV : miV m z = mnF8 m z 8 := by unfold miV; rw [if_pos h0]
 have hz12 := zjp h0;apply yp;apply yg;refine zB ?_;apply yI;refine yu ?_;iterate 2 apply yl
 refine X.imp (yL hbE 35 3 9 30 rfl rfl) ?_;refine gq ?_
 refine yS (ι := Nat) (fun (n : Nat) => [(1, btsA z), (2, .ptr 2 0 0 0), (8, .ptr 8 0 0 0), (9, .own 30), (23, iv (n : Int))]) (fun (n : Nat) => [(2, .box (mnE m) 32), (8, .box (hsC m z n) 89), (30, .row hbE (mnF8 m z n) 35 3)]) (fun (n : Nat) => n <= 8) (fun (n : Nat) => 8 - n) 0 (fun n hk => ?_) (hJ := by
  exact Nat.zero_le _) (h0 := by
  exact yd)
 refine gd ?_ ?_<;>intro hc2
 ·have hmn := zkb m z n;have hms := ztb m z n;refine gq ?_;refine zf [26,27,28,29,30] [0,0,0,4,15] mo ?_;iterate 3 refine yc ?_
  refine yM (zag (n : Int)) ?_;refine yM (zby m z (hbN (n : Int))) ?_;refine yE ?_;refine gq ?_;refine X.range (sl := [1, 2, 8, 9, 10, 23]) (fun j => ([btsA z, .ptr 2 0 0 0, .ptr 8 0 0 0, .own 30, .ptr 10 0 0 0, iv (n : Int)], [(2, .box (mnE m) 32), (8, .box (hsC m z n) 89), (10, .box [iv (n : Int)] 3), (30, .row hbE (mnF8 m z n) 35 3)])) (fun j => j = 0) 900001 900002 rfl rfl (by decide) (fun j zs hj => by obtain ⟨i, _, rfl⟩ := zd4 hj; rfl) ((zbf m z (hbN (n : Int)) (by omega))) trivial rfl rfl (by decide) (Nat.zero_le _) (by simp) (fun j zs hj => by obtain ⟨i, _, rfl⟩ := zd4 hj; rfl) (fun _ => rfl) rfl rfl (fun l o us => yd) (rfl) (fun j zs hj hJ l ready busy rb vs g w hb hyB => ?_) (fun hJ => ?_)
  ·have hwq : wq m z (n : Int) = true := by
    unfold wq; rw [decide_eq_true_iff]; have := (List.getElem?_eq_some_iff.1 hj).1; omega
   have hset := zp9 (m := m) (z := z) (n := n) (by omega) hwq;have hl7 : 0 * 0 + (0 + (n : Int).toNat * 1) < (hsC m z n).length := by rw [zjq]; omega
   have hZ1 := zd4 hj;obtain ⟨x, hi, rfl⟩ := hZ1;have hcell := zgw (m := m) (z := z) (n := n + 1) (i := n) (by omega);rw [show decide (n < n + 1) = true from decide_eq_true (by omega), Bool.true_and, zrB] at hcell;have hl8 : 0 * 0 + (0 + (n : Int).toNat * 1) < (hsC m z (n + 1)).length := by rw [zjq]; omega
   apply yp;refine ⟨rfl, rfl, ?_⟩;apply X.block;apply yg;(iterate 2 refine ya ?_);refine Ex.mo (hs := zah rfl rfl rfl rfl TyK.h hl7) ?_;apply Ex.nil;apply X.exit;refine ⟨[btsA z, .ptr 2 0 0 0, .ptr 8 0 0 0, .own 30, .ptr 10 0 0 0, iv (n : Int)], [(2, .box (mnE m) 32), (8, .box (hsC m z (n + 1)) 89), (10, .box [iv (n : Int)] 3), (30, .row hbE (mnF8 m z n) 35 3)], yd, ?_⟩;apply yg;(iterate 2 refine ya ?_);refine ya (hs := yG rfl rfl hcell TyK.h) ?_;refine gq ?_
   refine yS (ι := Nat) (fun (i : Nat) => [(1, btsA z), (2, .ptr 2 0 0 0), (8, .ptr 8 0 0 0), (9, .own 30), (10, .ptr 10 0 0 0), (11, .bool (lsK m z (n : Int) i)), (23, iv (n : Int)), (37, iv (n : Int)), (38, iv (i : Int))]) (fun (i : Nat) => [(2, .box (mnE m) 32), (8, .box (hsC m z (n + 1)) 89), (10, .box [iv (n : Int)] 3), (30, .row hbE (mnF8 m z n) 35 3)]) (fun (i : Nat) => i <= n) (fun (i : Nat) => n - i) 0 (fun i hk => ?_) (hJ := by
    exact Nat.zero_le _) (h0 := by
    exact yd)
   refine gd ?_ ?_<;>intro hc3
   ·have hci := zgw (m := m) (z := z) (n := n + 1) (i := i) (by omega);rw [show decide (i < n + 1) = true from decide_eq_true (by omega), Bool.true_and] at hci;apply yp;apply yl;apply X.block;apply yg;(iterate 2 refine ya ?_);apply yI;(iterate 2 refine ya ?_);refine ya (hs := zhK rfl rfl) ?_;(iterate 2 refine ya ?_);refine ExF.at 5 ?_;refine yA ?_;(iterate 2 refine ExF.gi ?_);refine ExF.gi (hs := fun hgd => yG rfl rfl hci TyK.h) ?_;refine gf ?_ ?_<;>intro hc4
    ·have hst : false = lsK m z (n : Int) (i + 1) := by rw [zl9]; first | (simp [hc4]; done) | (simp [hc4.1, hc4.2]; done) | (simp_all; done)
     refine gq ?_;refine yz (i + 1) (hI := yd)
    ·have hst : lsK m z (n : Int) i = lsK m z (n : Int) (i + 1) := by rw [zl9]; first | (simp [hc4]; done) | (simp_all; done)
     refine gq ?_;refine yz (i + 1) (hI := yd)
   ·obtain rfl : n = i := by omega
    refine gd ?_ ?_<;>intro hc5
    ·rw [if_pos hc5] at hms;have hst := hms.symm;refine gq ?_;refine yb (zag (n : Int)) ?_;refine yJ hbE [hbN (n : Int)] ?_;refine gq ?_;refine yz (n + 1) (hI := yd)
    ·rw [if_neg (by rw [hc5]; decide), List.append_nil] at hms;have hst := hms.symm;refine gq ?_;refine yz (n + 1) (hI := yd)
  have hwq : wq m z (n : Int) = false := by
   unfold wq; rw [decide_eq_false_iff_not]; omega
  have hno := zta (m := m) (z := z) hwq;have hcell := zgw (m := m) (z := z) (n := n + 1) (i := n) (by omega);rw [show decide (n < n + 1) = true from decide_eq_true (by omega), Bool.true_and, zrB] at hcell;have hl8 : 0 * 0 + (0 + (n : Int).toNat * 1) < (hsC m z (n + 1)).length := by rw [zjq]; omega
  refine X.imp (st' := ⟨[(1, btsA z), (2, .ptr 2 0 0 0), (8, .ptr 8 0 0 0), (9, .own 30), (10, .ptr 10 0 0 0), (23, iv (n : Int))], [(2, .box (mnE m) 32), (8, .box (hsC m z (n + 1)) 89), (10, .box [iv (n : Int)] 3), (30, .row hbE (mnF8 m z n) 35 3)]⟩) yd ?_;apply yg;iterate 2 refine ya ?_
  refine ya (hs := yG rfl rfl hcell TyK.h) ?_;refine gq ?_
  refine yS (ι := Nat) (fun (i : Nat) => [(1, btsA z), (2, .ptr 2 0 0 0), (8, .ptr 8 0 0 0), (9, .own 30), (10, .ptr 10 0 0 0), (11, .bool (lsK m z (n : Int) i)), (23, iv (n : Int)), (37, iv (n : Int)), (38, iv (i : Int))]) (fun (i : Nat) => [(2, .box (mnE m) 32), (8, .box (hsC m z (n + 1)) 89), (10, .box [iv (n : Int)] 3), (30, .row hbE (mnF8 m z n) 35 3)]) (fun (i : Nat) => i <= n) (fun (i : Nat) => n - i) 0 (fun i hk => ?_) (hJ := by
   exact Nat.zero_le _) (h0 := by
   exact yd)
  refine gd ?_ ?_<;>intro hc6
  ·have hci := zgw (m := m) (z := z) (n := n + 1) (i := i) (by omega);rw [show decide (i < n + 1) = true from decide_eq_true (by omega), Bool.true_and] at hci;apply yp;apply yl;apply X.block;apply yg;(iterate 2 refine ya ?_);apply yI;(iterate 2 refine ya ?_);refine ya (hs := zhK rfl rfl) ?_;(iterate 2 refine ya ?_);refine ExF.at 5 ?_;refine yA ?_;(iterate 2 refine ExF.gi ?_);refine ExF.gi (hs := fun hgd => yG rfl rfl hci TyK.h) ?_;refine gf ?_ ?_<;>intro hc7
   ·have hst : false = lsK m z (n : Int) (i + 1) := by rw [zl9]; first | (simp [hc7]; done) | (simp [hc7.1, hc7.2]; done) | (simp_all; done)
    refine gq ?_;refine yz (i + 1) (hI := yd)
   ·have hst : lsK m z (n : Int) i = lsK m z (n : Int) (i + 1) := by rw [zl9]; first | (simp [hc7]; done) | (simp_all; done)
    refine gq ?_;refine yz (i + 1) (hI := yd)
  ·obtain rfl : n = i := by omega
   refine gd ?_ ?_<;>intro hc8
   ·rw [if_pos hc8] at hms;have hst := hms.symm;refine gq ?_;refine yb (zag (n : Int)) ?_;refine yJ hbE [hbN (n : Int)] ?_;refine gq ?_;refine yz (n + 1) (hI := yd)
   ·rw [if_neg (by rw [hc8]; decide), List.append_nil] at hms;have hst := hms.symm;refine gq ?_;refine yz (n + 1) (hI := yd)
 ·obtain rfl : n = 8 := by omega
  apply X.exit;apply yg;refine zh ?_;refine X.ret ?_;refine RetQ.imp (Imp.freeze (k := 30) rfl) ?_;refine yi ?_ ?_;all_goals (first | (rw [hV]; done) | exact congrArg (fun y => AV.sl hbE y) hV.symm | exact congrArg (AV.int .i64) h0.symm | rfl)
end
end Go.Rse
