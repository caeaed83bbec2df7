/-
  Walks: times by definition (tactusref01).
-/
import Derived.Test.YtfiiobachmglpaaGreatDoorFJTime
import Derived.Test.YtfiiobachmglpaaGreatDoorFMens2
import Derived.Test.YtfiiobachmglpaaGreatDoorFLogB
set_option linter.unusedSimpArgs false
set_option linter.unusedVariables false
namespace Go.Rse
open Go Go.Proofs
attribute [local irreducible] Pur yK yM Ex X Fn Imp LeV LeB FnO It yW
attribute [local irreducible] gI
theorem zh6 (a b : Tm) : yP [a, b] = if ckT a = 0 then ckT b else ckT a := by
 simp only [yP];by_cases ha : ckT a = 0
 ·rw [if_pos ha, if_pos ha];by_cases hb : ckT b = 0
  ·rw [if_pos hb, hb]
  ·rw [if_neg hb]
 ·rw [if_neg ha, if_neg ha]
theorem zaj (a b : Int) (h0 : 0 <= a) (h1 : a <= 9223372036854775807) (h2 : 0 <= b) (h3 : b <= 9223372036854775807) : Fn Tryz.prog 214 [iv a, iv b] (iv (gI a b)) := by
 refine Fn.go Tryz.func214 Tryz.ntmps214 (fun g w d => ?_);apply yb;refine ye ?_;apply yd;apply X.block
 refine y9 (ι := Int × Int) (fun (p : Int × Int) => [(0, iv p.1), (1, iv p.2)]) (fun (p : Int × Int) => []) (fun (p : Int × Int) => 0 <= p.1 /\ 0 <= p.2 /\ p.1 <= 9223372036854775807 /\ p.2 <= 9223372036854775807 /\ gI p.1 p.2 = gI a b) (fun (p : Int × Int) => p.2.toNat) (a, b) (fun p hk => ?_) (hJ := by
  exact ⟨h0, h2, h1, h3, rfl⟩)
 obtain ⟨x, y⟩ := p;obtain ⟨k1, k2, k3, k4, k5⟩ := hk;dsimp only at *
 apply yd;apply yb;refine yh ?_;refine yk rfl ?_ ?_<;>intro hc1
 ·have e0 := Int.emod_nonneg x (show y ≠ 0 by omega);have e1 := Int.emod_lt_of_pos x hc1;apply yf;apply X.block;apply yb;iterate 4 refine ya ?_
  apply yn;refine yh ?_;apply yc;refine yh ?_
  refine yL ((y, x % y)) (hJ := by
   exact ⟨by omega, e0, by dsimp only; omega, by dsimp only; omega, by rw [← k5]; exact ziU k1 hc1⟩)
 ·have hy0 : y = 0 := by omega
  subst hy0;apply X.exit;apply yb;refine yh ?_;refine X.ret ?_;refine ym ?_;all_goals (rw [← k5, ziT k1])
theorem zaI (t : Tm) : Fn Tryz.prog 138 [tmA t] (iv (ckT t)) := by
 refine Fn.go Tryz.func138 Tryz.ntmps138 (fun g w d => ?_);apply yb;refine yH ?_;refine ye ?_;apply yd;apply yb;iterate 3 refine ya ?_
 refine ExF.at 3 ?_;refine yC ?_;iterate 3 refine ExF.gi ?_
 iterate 2 refine yC ?_
 iterate 3 refine ExF.gi ?_
 iterate 2 refine yC ?_
 iterate 3 refine ExF.gi ?_
 refine yA ?_;refine ye ?_;refine yk rfl ?_ ?_<;>intro hc1
 ·apply yb;refine ye ?_;refine X.ret ?_;refine ym ?_;all_goals (congr 1; unfold ckT; rw [if_pos (by omega)])
 have hg := zb1 (n := t.N) (d := t.D) (by omega);apply yf;apply yd;apply yb;iterate 4 refine ya ?_
 refine yr (zaj t.N t.D (by omega) (by omega) (by omega) (by omega)) ?_;refine ye ?_;refine yk rfl ?_ ?_<;>intro hc2
 ·apply yb;refine ye ?_;refine X.ret ?_;refine ym ?_;all_goals (congr 1; unfold ckT; rw [if_neg (by omega), if_pos (by omega)])
 apply yf;apply yb;refine ye ?_;refine X.ret ?_;refine ym ?_;all_goals (congr 1; unfold ckT; rw [if_neg (by omega), if_neg (by omega)])
theorem zbo (n q : Int) (h0 : 0 <= n) (h1 : n <= 9223372036854775807) (h2 : 1 <= q) (h3 : q <= 9223372036854775807) : Fn Tryz.prog 255 [iv n, iv q] (.tup [tmA (tmkT n q), iv (tmkE n q)]) := by
 have hg := zb1 (n := n) (d := q) (by omega);refine Fn.go Tryz.func255 Tryz.ntmps255 (fun g w d => ?_);apply yb;refine yJ ?_;refine ya ?_;apply yn;iterate 2 refine ya ?_
 refine yr (zaj n q (by omega) (by omega) (by omega) (by omega)) ?_;refine ya ?_;apply yn;iterate 4 refine ya ?_
 apply yn;refine yX ?_;apply yd;apply yb;iterate 2 refine ya ?_
 refine ExF.at 2 ?_;refine yC ?_;iterate 2 refine ExF.gi ?_
 refine yA ?_;refine ye ?_;refine yk rfl ?_ ?_<;>intro hc1
 ·have hE : tmkE n q = 4 := by unfold tmkE; rw [if_neg (by omega), if_neg (by omega), if_pos hc1]
  have hV : tmkT n q = tmZ := by unfold tmkT; rw [if_neg (by omega)]
  apply yb;refine ya ?_;refine yi ?_;refine ye ?_;refine X.ret ?_;refine yF ty60 ?_ ?_;all_goals (first | (rw [hE]; done) | (rw [hV]; rfl) | (rw [hE]; rfl) | (rw [hV]; done))
 have hE : tmkE n q = 0 := by unfold tmkE; rw [if_neg (by omega), if_neg (by omega), if_neg (fun h => by omega)]
 have hV : tmkT n q = ⟨n / gI n q, q / gI n q⟩ := by unfold tmkT; rw [if_pos hE]
 apply yf;apply yb;iterate 3 refine ya ?_
 refine yi ?_;refine ye ?_;refine X.ret ?_;refine yF ty60 ?_ ?_;all_goals (first | (rw [hE]; done) | (rw [hV]; rfl) | (rw [hE]; rfl) | (rw [hV]; done))
theorem zeT (n q : Int) (h0 : n <= 9223372036854775807) (h1 : q <= 9223372036854775807) : Fn Tryz.prog 282 [iv n, iv q] (.tup [tmA (tmkT n q), iv (tmkE n q)]) := by
 refine Fn.go Tryz.func282 Tryz.ntmps282 (fun g w d => ?_);apply yb;refine yJ ?_;refine ye ?_;apply yd;apply yb;iterate 2 refine ya ?_
 refine ExF.at 2 ?_;refine yC ?_;iterate 2 refine ExF.gi ?_
 refine yA ?_;refine ye ?_;refine yk rfl ?_ ?_<;>intro hc1
 ·have hE : tmkE n q = 2 := by unfold tmkE; rw [if_pos hc1]
  have hV : tmkT n q = tmZ := by unfold tmkT; rw [if_neg (by omega)]
  apply yb;refine ya ?_;refine yi ?_;refine ye ?_;refine X.ret ?_;refine yF ty60 ?_ ?_;all_goals (first | rfl | (rw [hE]; done) | (rw [hV]; rfl) | (rw [hE]; rfl))
 apply yf;apply yd;apply yb;refine yh ?_;refine yk rfl ?_ ?_<;>intro hc2
 ·have hE : tmkE n q = 5 := by unfold tmkE; rw [if_neg (by omega), if_pos hc2]
  have hV : tmkT n q = tmZ := by unfold tmkT; rw [if_neg (by omega)]
  apply yb;refine ya ?_;refine yi ?_;refine ye ?_;refine X.ret ?_;refine yF ty60 ?_ ?_;all_goals (first | rfl | (rw [hE]; done) | (rw [hV]; rfl) | (rw [hE]; rfl))
 apply yf;apply yb;iterate 2 refine ya ?_
 refine yr (zbo n q (by omega) (by omega) (by omega) (by omega)) ?_;iterate 2 refine ya ?_
 refine yi ?_;refine ye ?_;refine X.ret ?_;refine yF ty60 ?_ ?_;all_goals (first | rfl | (rw [hE]; done) | (rw [hV]; rfl) | (rw [hE]; rfl))
theorem zL (a b : Tm) : Fn Tryz.prog 225 [tmA a, tmA b] (iv (yP [a, b])) := by
 refine Fn.go Tryz.func225 Tryz.ntmps225 (fun g w d => ?_);apply yb;iterate 2 refine yH ?_
 refine ya ?_;apply yn;refine ya ?_;refine yr (zaI a) ?_;refine ye ?_;apply yd;apply yb;refine yh ?_;refine yk rfl ?_ ?_<;>intro hc1
 ·apply yb;refine yh ?_;refine X.ret ?_;refine ym ?_;all_goals (congr 1; rw [zh6, if_neg hc1])
 apply yf;apply yb;refine ya ?_;refine yr (zaI b) ?_;refine ye ?_;refine X.ret ?_;refine ym ?_;all_goals (congr 1; rw [zh6, if_pos hc1])
theorem zak (a b : Tm) : Fn Tryz.prog 210 [tmA a, tmA b] (.tup [tmA (subV a b), iv (subE a b)]) := by
 refine Fn.go Tryz.func210 Tryz.ntmps210 (fun g w d => ?_);apply yb;iterate 2 refine yH ?_
 refine yJ ?_;refine ya ?_;apply yn;iterate 2 refine ya ?_
 refine yr (zL a b) ?_;refine ye ?_;apply yd;apply yb;refine yh ?_;refine yk rfl ?_ ?_<;>intro hc1
 ·have hE : subE a b = yP [a, b] := by unfold subE; rw [if_neg hc1]
  have hV : subV a b = tmZ := by unfold subV; rw [if_neg hc1]
  apply yb;iterate 2 refine ya ?_
  refine yi ?_;refine ye ?_;refine X.ret ?_;refine yF ty60 ?_ ?_;all_goals (first | (rw [hE]; done) | (rw [hV]; rfl) | (rw [hE]; rfl) | (rw [hV]; done))
 have h12 := zbG hc1;have b1 := z8 h12.1;have b2 := z8 h12.2;have m1 := mulB b1.1 b1.2.1 b2.2.2.1 b2.2.2.2.1;have m2 := mulB b2.1 b2.2.1 b1.2.2.1 b1.2.2.2.1;have m3 := mulB b1.2.2.1 b1.2.2.2.1 b2.2.2.1 b2.2.2.2.1;have m4 := mulP b1.2.2.2.2.1 b2.2.2.2.2.1;have hE : subE a b = tmkE (a.N * b.D - b.N * a.D) (a.D * b.D) := by unfold subE; rw [if_pos hc1]
 have hV : subV a b = tmkT (a.N * b.D - b.N * a.D) (a.D * b.D) := by unfold subV; rw [if_pos hc1]
 apply yf;apply yd;apply yb;iterate 10 refine ya ?_
 refine ye ?_;refine yk rfl ?_ ?_<;>intro hc2
 ·have h2 : tmkE (a.N * b.D - b.N * a.D) (a.D * b.D) = 2 := by unfold tmkE; rw [if_pos (by omega)]
  have h3 : tmkT (a.N * b.D - b.N * a.D) (a.D * b.D) = tmZ := by unfold tmkT; rw [if_neg (by omega)]
  rw [h2] at hE;rw [h3] at hV;apply yb;refine ya ?_;refine yi ?_;refine ye ?_;refine X.ret ?_;refine yF ty60 ?_ ?_;all_goals (first | (rw [hE]; done) | (rw [hV]; rfl) | (rw [hE]; rfl) | (rw [hV]; done))
 apply yf;apply yb;iterate 16 refine ya ?_
 refine yr (zbo (a.N * b.D - b.N * a.D) (a.D * b.D) (by omega) (by omega) (by omega) (by omega)) ?_;iterate 2 refine ya ?_
 refine yi ?_;refine ye ?_;refine X.ret ?_;refine yF ty60 ?_ ?_;all_goals (first | (rw [hE]; done) | (rw [hV]; rfl) | (rw [hE]; rfl) | (rw [hV]; done))
theorem zdp (a b : Tm) : Fn Tryz.prog 278 [tmA a, tmA b] (.tup [iv (cmpV a b), iv (yP [a, b])]) := by
 refine Fn.go Tryz.func278 Tryz.ntmps278 (fun g w d => ?_);apply yb;iterate 2 refine yH ?_
 iterate 2 refine ya ?_
 apply yn;iterate 2 refine ya ?_
 refine yr (zL a b) ?_;refine ye ?_;apply yd;apply yb;refine yh ?_;refine yk rfl ?_ ?_<;>intro hc1
 ·have hV : cmpV a b = 0 := by unfold cmpV; rw [if_neg hc1]
  apply yb;refine yp ?_;refine X.ret ?_;refine yz ?_ ?_;all_goals (first | (rw [hV]; done) | rfl | (rw [hc1]; done))
 have h12 := zbG hc1;have b1 := z8 h12.1;have b2 := z8 h12.2;have m1 := mulB b1.1 b1.2.1 b2.2.2.1 b2.2.2.2.1;have m2 := mulB b2.1 b2.2.1 b1.2.2.1 b1.2.2.2.1;have m3 := mulB b1.2.2.1 b1.2.2.2.1 b2.2.2.1 b2.2.2.2.1;have m4 := mulP b1.2.2.2.2.1 b2.2.2.2.2.1;apply yf;apply yd;refine zi [7,8,15,16,17,18,19,20,21,22,23,24] [0,1,0,4,15,0,32,0,128,480,31,2047] mo ?_;iterate 12 refine yj ?_
 refine yR ?_;apply Ex.nil;apply yd;apply X.block;apply yb;refine yX ?_;refine yk rfl ?_ ?_<;>intro hc2
 ·have hV : cmpV a b = -1 := by unfold cmpV; rw [if_pos hc1, if_pos (by omega)]
  apply yb;refine yh ?_;refine X.ret ?_;refine yz ?_ ?_;all_goals (first | (rw [hV]; done) | rfl | (rw [hc1]; done))
 apply yb;refine yX ?_;refine yk rfl ?_ ?_<;>intro hc3
 ·have hV : cmpV a b = 1 := by unfold cmpV; rw [if_pos hc1, if_neg (by omega), if_pos (by omega)]
  apply yb;refine yh ?_;refine X.ret ?_;refine yz ?_ ?_;all_goals (first | (rw [hV]; done) | rfl | (rw [hc1]; done))
 have hV : cmpV a b = 0 := by unfold cmpV; rw [if_pos hc1, if_neg (by omega), if_neg (by omega)]
 apply yf;apply yb;refine yh ?_;refine X.ret ?_;refine yz ?_ ?_;all_goals (first | (rw [hV]; done) | rfl | (rw [hc1]; done))
end Go.Rse
namespace Go.Rse
open Go Go.Proofs
attribute [local irreducible] Pur yK yM Ex X Fn Imp LeV LeB FnO It yW
theorem Mn.ok_L (m : Mn) : m.Ok ↔ ∀ v ∈ mnL m, two3 v := by simp [Mn.Ok, mnL]
theorem zpI {m : Mn} {w : Int} (h : 4 < w) : m.p w = 2 := by
 unfold Mn.p; rw [if_neg (by omega), if_neg (by omega), if_neg (by omega), if_neg (by omega)]
theorem zkZ {m : Mn} {v : Int} (h : ckMV m v = 0) : 1 <= v /\ v <= 8 := by
 unfold ckMV at h;split at h
 ·split at h
  ·assumption
  ·omega
 ·omega
theorem zod {m : Mn} {v w : Int} (h1 : 1 <= w) (hv : w < v) (hp : m.p w = 3) (hJ : ∀ u, w < u -> u < v -> m.p u ≠ 3) : m.ab v = w := by
 have hw : w <= 4 := by
  rcases Int.lt_or_le 4 w with h | h
  ·rw [zpI h] at hp; omega
  ·exact h
 have hb : ∀ u, w < u -> decide (decide (m.p u = 3) = true /\ decide (u < v) = true) = false := fun u h => by
  by_cases h3 : m.p u = 3
  ·have : ¬ u < v := fun h4 => hJ u h h4 h3
   simp [this]
  ·simp [h3]
 have hbw : decide (decide (m.p w = 3) = true /\ decide (w < v) = true) = true := by simp [hp, hv]
 unfold Mn.ab perfL;rw [List.find?_filter];have : w = 1 \/ w = 2 \/ w = 3 \/ w = 4 := by omega
 rcases this with rfl | rfl | rfl | rfl
 ·simp only [List.find?_cons, hb 4 (by omega), hb 3 (by omega), hb 2 (by omega), hbw]; rfl
 ·simp only [List.find?_cons, hb 4 (by omega), hb 3 (by omega), hbw]; rfl
 ·simp only [List.find?_cons, hb 4 (by omega), hbw]; rfl
 ·simp only [List.find?_cons, hbw]; rfl
theorem zoe {m : Mn} {v : Int} (hJ : ∀ u, 1 <= u -> u < v -> m.p u ≠ 3) : m.ab v = 0 := zlW fun i _ k hk h => by
 have hm : k ∈ perfL m := List.mem_of_getElem? hk;have h2 := List.mem_filter.1 hm;have h3 : m.p k = 3 := by simpa using h2.2
 have h4 : 1 <= k := by have := h2.1; simp at this; omega
 exact hJ k h4 h h3
theorem zY (m : Mn) : Fn Tryz.prog 136 [mnA m] (iv (ckM m)) := by
 refine Fn.go Tryz.func136 Tryz.ntmps136 (fun g w d => ?_);apply yb;refine yH ?_;refine ya ?_;apply yn;iterate 8 refine ya ?_
 refine yO intE [_, _, _, _] ?_;refine ye ?_;iterate 2 apply yd
 refine y3 (Imp.freeze (k := 13) rfl) ?_;apply yc;refine ye ?_;apply X.block
 refine y9 (ι := Nat) (fun (k : Nat) => [(3, yg (mnL m)), (4, iv (k : Int))]) (fun (k : Nat) => []) (fun (k : Nat) => k <= 4 /\ ∀ i v, i < k -> (mnL m)[i]? = some v -> two3 v) (fun (k : Nat) => 4 - k) 0 (fun k hk => ?_) (hJ := by
  exact ⟨by omega, fun i v h => absurd h (Nat.not_lt_zero i)⟩)
 obtain ⟨hk1, hk2⟩ := hk;have hl4 : (mnL m).length = 4 := rfl;apply yd;apply yb;refine yX ?_;refine yk rfl ?_ ?_<;>intro hc1
 ·obtain ⟨v, hv⟩ : ∃ v, (mnL m)[k]? = some v := ⟨_, lgg (by omega)⟩;have hv2 : (mnL m)[(k : Int).toNat]? = some v := by simpa using hv
  apply yf;apply yd;apply X.block;apply yb;iterate 5 refine ya ?_
  refine ExF.at 5 ?_;refine yC ?_;iterate 5 refine ExF.gi ?_
  refine yA ?_;refine ye ?_;refine yk rfl ?_ ?_<;>intro hc2
  ·apply yb;refine ye ?_;refine X.ret ?_;refine ym ?_;all_goals (congr 1; unfold ckM; rw [if_neg (fun h => by have := (m.ok_L.1 h) v (List.mem_of_getElem? hv); unfold two3 at this; omega)])
  apply yf;apply yc;refine yp ?_
  refine yL (k + 1) (hJ := by
   refine ⟨by omega, fun i u hi hu => ?_⟩;rcases Nat.lt_succ_iff_lt_or_eq.1 hi with h | h
   ·exact hk2 i u h hu
   ·subst h; rw [hv] at hu; injection hu with hu; subst hu; unfold two3; omega)
 ·apply X.exit;apply yb;refine ye ?_;refine X.ret ?_;refine ym ?_;all_goals (congr 1; unfold ckM; rw [if_pos (m.ok_L.2 fun v hv => by obtain ⟨i, hi⟩ := List.mem_iff_getElem?.1 hv; exact hk2 i v (by have := (List.getElem?_eq_some_iff.1 hi).1; omega) hi)])
theorem zz (m : Mn) (v : Int) : Fn Tryz.prog 137 [mnA m, iv v] (iv (m.p v)) := by
 refine Fn.go Tryz.func137 Tryz.ntmps137 (fun g w d => ?_);apply yb;refine yH ?_;refine ye ?_;apply yd;apply yb;refine ye ?_;apply X.block;apply yb;refine yh ?_;refine yk rfl ?_ ?_<;>intro hc1
 ·apply yb;refine yp ?_;refine X.ret ?_;refine ym ?_;all_goals (congr 1; unfold Mn.p; simp [*])
 apply yb;refine yh ?_;refine yk rfl ?_ ?_<;>intro hc2
 ·apply yb;refine yp ?_;refine X.ret ?_;refine ym ?_;all_goals (congr 1; unfold Mn.p; simp [*])
 apply yb;refine yh ?_;refine yk rfl ?_ ?_<;>intro hc3
 ·apply yb;refine yp ?_;refine X.ret ?_;refine ym ?_;all_goals (congr 1; unfold Mn.p; simp [*])
 apply yb;refine yh ?_;refine yk rfl ?_ ?_<;>intro hc4
 ·apply yb;refine yp ?_;refine X.ret ?_;refine ym ?_;all_goals (congr 1; unfold Mn.p; simp [*])
 apply yf;apply yb;refine ye ?_;refine X.ret ?_;refine ym ?_;all_goals (congr 1; unfold Mn.p; simp [*])
theorem zbJ (m : Mn) (v : Int) : Fn Tryz.prog 217 [mnA m, iv v] (iv (ckMV m v)) := by
 refine Fn.go Tryz.func217 Tryz.ntmps217 (fun g w d => ?_);apply yb;refine yH ?_;refine ya ?_;apply yn;refine ya ?_;refine yr (zY m) ?_;refine ye ?_;apply yd;apply yb;refine yh ?_;refine yk rfl ?_ ?_<;>intro hc1
 ·apply yb;refine yh ?_;refine X.ret ?_;refine ym ?_;all_goals (by_cases hm : m.Ok <;> simp_all [ckM, ckMV] <;> omega)
 apply yf;apply yd;apply yb;iterate 2 refine ya ?_
 refine ExF.at 2 ?_;refine yC ?_;iterate 2 refine ExF.gi ?_
 refine yA ?_;refine ye ?_;refine yk rfl ?_ ?_<;>intro hc2
 ·apply yb;refine ye ?_;refine X.ret ?_;refine ym ?_;all_goals (by_cases hm : m.Ok <;> simp_all [ckM, ckMV] <;> omega)
 apply yf;apply yb;refine ye ?_;refine X.ret ?_;refine ym ?_;all_goals (by_cases hm : m.Ok <;> simp_all [ckM, ckMV] <;> omega)
theorem zev (m : Mn) (v : Int) : Fn Tryz.prog 142 [mnA m, iv v] (.tup [iv (if ckMV m v = 0 then m.ab v else 0), iv (ckMV m v)]) := by
 refine Fn.go Tryz.func142 Tryz.ntmps142 (fun g w d => ?_);apply yb;refine yH ?_;iterate 2 refine ya ?_
 apply yn;iterate 2 refine ya ?_
 refine yr (zbJ m v) ?_;refine ye ?_;apply yd;apply yb;refine yh ?_;refine yk rfl ?_ ?_<;>intro hc1
 ·apply yb;refine yp ?_;refine X.ret ?_;refine yz ?_ ?_;all_goals (first | (simp_all; done))
 apply yf;iterate 2 apply yd
 have hv8 := zkZ hc1;apply yc;refine yp ?_;apply X.block
 refine y9 (ι := Nat) (fun (k : Nat) => [(2, .ptr 2 0 0 0), (7, iv (v - 1 - (k : Int)))]) (fun (k : Nat) => [(2, .box (mnE m) 23)]) (fun (k : Nat) => (k : Int) <= v - 1 /\ ∀ u, v - 1 - (k : Int) < u -> u < v -> m.p u ≠ 3) (fun (k : Nat) => (v - 1 - k).toNat) 0 (fun k hk => ?_) (hJ := by
  exact ⟨by omega, fun u h1 h2 => by omega⟩)
 obtain ⟨hk1, hk2⟩ := hk;apply yd;apply yb;refine yh ?_;refine yk rfl ?_ ?_<;>intro hc2
 ·apply yf;apply yd;apply X.block;apply yb;iterate 2 refine ya ?_
  refine yr (zz m _) ?_;refine ye ?_;refine yk rfl ?_ ?_<;>intro hc3
  ·apply yb;refine yp ?_;refine X.ret ?_;refine yz ?_ ?_;all_goals (first | (rw [if_pos hc1, zod (by omega) (by omega) hc3 (fun u h1 h2 => hk2 u h1 h2)]; done) | (simp_all; done))
  apply yf;apply yc;refine yp ?_
  refine yL (k + 1) (hJ := by
   refine ⟨by omega, fun u h1 h2 => ?_⟩;by_cases e : u = v - 1 - (k : Int)
   ·rw [e]; exact hc3
   ·exact hk2 u (by omega) h2)
 ·apply X.exit;apply yb;refine yh ?_;refine X.ret ?_;refine yz ?_ ?_;all_goals (first | (rw [if_pos hc1, zoe (fun u h1 h2 => hk2 u (by omega) h2)]; done) | (simp_all; done))
end Go.Rse
namespace Go.Rse
open Go Go.Proofs
attribute [local irreducible] Pur yK yM Ex X Fn Imp LeV LeB FnO It yW
def zaZ (m : Mn) (v : Int) : Nat -> Int
 | 0 => 1
 | n + 1 => zaZ m v n * m.p (v + n)
def dbl : Nat -> Int
 | 0 => 1
 | n + 1 => dbl n * 2
def zo (m : Mn) (v : Int) : Tm := ⟨zaZ m v (5 - v).toNat, dbl (v - 5).toNat⟩
theorem zgE {m : Mn} (h : ckM m = 0) (v : Int) (h1 : 1 <= v) : m.p v = 2 \/ m.p v = 3 := by
 rcases Int.lt_or_le 4 v with h4 | h4
 ·exact .inl (zpI h4)
 ·have ho : m.Ok := by
   unfold ckM at h; split at h
   ·assumption
   ·simp at h
  exact m.ok_iff.1 ho v h1 h4
def pw3 : Nat -> Int
 | 0 => 1
 | n + 1 => pw3 n * 3
theorem ziP {m : Mn} (h : ckM m = 0) {v : Int} (h1 : 1 <= v) : ∀ n, 1 <= zaZ m v n /\ zaZ m v n <= pw3 n
 | 0 => ⟨Int.le_refl _, Int.le_refl _⟩
 | n + 1 => by
  obtain ⟨a, b⟩ := ziP h h1 n;simp only [zaZ, pw3];rcases zgE h (v + n) (by omega) with e | e <;> rw [e] <;> omega
theorem zpJ : ∀ n, n <= 4 -> pw3 n <= 81
 | 0, _ => by decide
 | 1, _ => by decide
 | 2, _ => by decide
 | 3, _ => by decide
 | 4, _ => by decide
 | n + 5, h => by omega
theorem zpK : ∀ n, n <= 3 -> 1 <= dbl n /\ dbl n <= 8
 | 0, _ => by decide
 | 1, _ => by decide
 | 2, _ => by decide
 | 3, _ => by decide
 | n + 4, h => by omega
theorem zmN {m : Mn} {v : Int} (h : ckMV m v = 0) : ckM m = 0 /\ 1 <= v /\ v <= 8 := by
 have h2 := zkZ h;refine ⟨?_, h2⟩;unfold ckMV at h; unfold ckM;split at h
 ·rw [if_pos (by assumption)]
 ·omega
def zcG (m : Mn) (j : Nat) : List Int := (([4, 3, 2, 1] : List Int).take j).filter fun v => decide (m.p v = 3)
theorem zmd (m : Mn) (j : Nat) : (zcG m j).length <= 4 := by
 unfold zcG;refine Nat.le_trans (List.length_filter_le _ _) ?_;simp; omega
theorem zh7 (j : Nat) (h : j < 4) : ([4, 3, 2, 1] : List Int)[j]? = some (4 - (j : Int)) := by
 have : j = 0 \/ j = 1 \/ j = 2 \/ j = 3 := by omega
 rcases this with rfl | rfl | rfl | rfl <;> rfl
theorem zme {m : Mn} {j : Nat} (h : j < 4) (hp : m.p (4 - (j : Int)) = 3) : zcG m j ++ [4 - (j : Int)] = zcG m (j + 1) := by
 unfold zcG;rw [List.take_add_one, zh7 j h, List.filter_append]; simp [hp]
theorem zmO {m : Mn} {j : Nat} (h : j < 4) (hp : ¬ m.p (4 - (j : Int)) = 3) : zcG m j = zcG m (j + 1) := by
 unfold zcG;rw [List.take_add_one, zh7 j h, List.filter_append]; simp [hp]
theorem zmf (m : Mn) : zcG m 4 = perfL m := rfl
theorem zk0 (m : Mn) (v : Int) (j : Nat) : zaZ m v j * m.p (v + (j : Int)) = zaZ m v (j + 1) := rfl
theorem zpL (j : Nat) : dbl j * 2 = dbl (j + 1) := rfl
theorem zqp (j : Nat) : 2 * dbl j = dbl (j + 1) := by rw [← zpL]; exact Int.mul_comm _ _
attribute [local irreducible] zaZ dbl zcG perfL
theorem zjA (m : Mn) (v : Int) (hm : ckM m = 0) (h1 : 1 <= v) (h8 : v <= 8) : Fn Tryz.prog 98 [mnA m, iv v] (tmA (zo m v)) := by
 have hp0 : zaZ m v 0 = 1 := by unfold zaZ; rfl
 have hd0 : dbl 0 = 1 := by unfold dbl; rfl
 refine Fn.go Tryz.func98 Tryz.ntmps98 (fun g w d => ?_);apply yb;refine yH ?_;refine yJ ?_;apply yn;refine yh ?_;apply yd;apply yb;refine yh ?_;apply X.block;refine y9 (ι := Nat) (fun (j : Nat) => [(1, iv v), (2, .ptr 2 0 0 0), (4, .ptr 4 0 0 0), (5, iv (zaZ m v j)), (6, iv 1), (7, iv (v + (j : Int)))]) (fun (j : Nat) => [(2, .box (mnE m) 23), (4, .box [iv 0, iv 0] 60)]) (fun (j : Nat) => j <= (5 - v).toNat) (fun (j : Nat) => (5 - v).toNat - j) 0 (fun j hk => ?_);apply yd;apply yb;refine yh ?_;refine yk rfl ?_ ?_<;>intro hc1
 ·have hjv : j < (5 - v).toNat := by omega
  have hb := ziP (m := m) hm h1 j;have hb2 := zpJ j (by omega);have hp := zgE hm (v + j) (by omega);have hst := zk0 m v j;have hpm : 0 <= zaZ m v j * m.p (v + (j : Int)) /\ zaZ m v j * m.p (v + (j : Int)) <= 1000 := by rcases hp with e | e <;> rw [e] <;> omega
  apply yf;apply yd;apply X.block;apply yc;iterate 3 refine ya ?_
  refine yr (ziv m (v + (j : Int)) (by omega) (by omega)) ?_;refine yh ?_;apply yc;refine yp ?_;refine yL (j + 1)
 ·have hj : j = (5 - v).toNat := by omega
  subst hj;apply X.exit;apply yd;apply yb;refine ye ?_;apply X.block;refine y9 (ι := Nat) (fun (j : Nat) => [(1, iv v), (2, .ptr 2 0 0 0), (4, .ptr 4 0 0 0), (5, iv (zaZ m v (5 - v).toNat)), (6, iv (dbl j)), (8, iv (5 + (j : Int)))]) (fun (j : Nat) => [(2, .box (mnE m) 23), (4, .box [iv 0, iv 0] 60)]) (fun (j : Nat) => j <= (v - 5).toNat) (fun (j : Nat) => (v - 5).toNat - j) 0 (fun j hk => ?_);apply yd;apply yb;refine yp ?_;refine yk rfl ?_ ?_<;>intro hc2
  ·have hb := zpK j (by omega);have hst := zpL j;apply yf;apply yd;apply X.block;apply yc;refine yp ?_;apply yc;refine yp ?_;refine yL (j + 1)
  ·have hj : j = (v - 5).toNat := by omega
   subst hj;apply X.exit;apply yb;(iterate 3 refine ya ?_);refine yi ?_;apply Ex.nil;refine X.ret ?_;refine RetQ.ret (.one (.cellA rfl rfl rfl rfl ty60 (LeV.eq ?_)));all_goals (rfl)
theorem zjB (m : Mn) (v : Int) : Fn Tryz.prog 38 [mnA m, iv v] (.tup [tmA (if ckMV m v = 0 then zo m v else tmZ), iv (ckMV m v)]) := by
 refine Fn.go Tryz.func38 Tryz.ntmps38 (fun g w d => ?_);apply yb;refine yH ?_;refine yJ ?_;refine ye ?_;apply yd;apply yb;iterate 2 refine ya ?_
 refine yr (zch m v) ?_;refine ya ?_;apply yn;refine yh ?_;refine yk rfl ?_ ?_<;>intro hc1
 ·apply yb;iterate 2 refine ya ?_
  refine yi ?_;refine ye ?_;refine X.ret ?_;refine yF ty60 ?_ ?_;all_goals (first | rfl | (rw [if_neg hc1]; done) | (rw [if_neg hc1]; rfl) | (rw [if_pos hc1]; done) | (rw [if_pos hc1]; rfl) | (rw [hc1]; done) | (rw [hc1]; rfl))
 have h3 := zmN hc1;apply yf;apply yb;iterate 2 refine ya ?_
 refine yr (zjA m v h3.1 h3.2.1 h3.2.2) ?_;refine yi ?_;refine ye ?_;refine X.ret ?_;refine yF ty60 ?_ ?_;all_goals (first | rfl | (rw [if_neg hc1]; done) | (rw [if_neg hc1]; rfl) | (rw [if_pos hc1]; done) | (rw [if_pos hc1]; rfl) | (rw [hc1]; done) | (rw [hc1]; rfl))
theorem zeU (m : Mn) (v : Int) : Fn Tryz.prog 206 [mnA m, iv v] (.tup [tmA (if ckMV m v = 0 then zo m v else tmZ), iv (ckMV m v)]) := by
 have hp0 : zaZ m v 0 = 1 := by unfold zaZ; rfl
 have hd0 : dbl 0 = 1 := by unfold dbl; rfl
 refine Fn.go Tryz.func206 Tryz.ntmps206 (fun g w d => ?_);apply yb;refine yH ?_;refine yJ ?_;refine ya ?_;apply yn;iterate 2 refine ya ?_
 refine yr (zbJ m v) ?_;refine ye ?_;apply yd;apply yb;refine yh ?_;refine yk rfl ?_ ?_<;>intro hc1
 ·apply yb;iterate 2 refine ya ?_
  refine yi ?_;refine ye ?_;refine X.ret ?_;refine yF ty60 ?_ ?_;all_goals (first | rfl | (rw [if_neg hc1]; done) | (rw [if_neg hc1]; rfl) | (rw [if_pos hc1]; done) | (rw [if_pos hc1]; rfl) | (rw [hc1]; done) | (rw [hc1]; rfl))
 have h3 := zmN hc1;have hm := h3.1;have h1 := h3.2.1;have h8 := h3.2.2;apply yf;apply yb;refine yh ?_;apply yd;apply yb;refine yh ?_;apply X.block;refine y9 (ι := Nat) (fun (j : Nat) => [(1, iv v), (2, .ptr 2 0 0 0), (4, .ptr 4 0 0 0), (5, iv 0), (7, iv (zaZ m v j)), (8, iv 1), (9, iv (v + (j : Int)))]) (fun (j : Nat) => [(2, .box (mnE m) 23), (4, .box [iv 0, iv 0] 60)]) (fun (j : Nat) => j <= (5 - v).toNat) (fun (j : Nat) => (5 - v).toNat - j) 0 (fun j hk => ?_);apply yd;apply yb;refine yh ?_;refine yk rfl ?_ ?_<;>intro hc2
 ·have hjv : j < (5 - v).toNat := by omega
  have hb := ziP (m := m) hm h1 j;have hb2 := zpJ j (by omega);have hp := zgE hm (v + j) (by omega);have hst := zk0 m v j;have hpm : 0 <= zaZ m v j * m.p (v + (j : Int)) /\ zaZ m v j * m.p (v + (j : Int)) <= 1000 := by rcases hp with e | e <;> rw [e] <;> omega
  apply yf;apply yd;apply X.block;apply yc;iterate 3 refine ya ?_
  refine yr (zz m (v + (j : Int))) ?_;refine yh ?_;apply yc;refine yp ?_;refine yL (j + 1)
 ·have hj : j = (5 - v).toNat := by omega
  subst hj;apply X.exit;apply yd;apply yb;refine yh ?_;apply X.block;refine y9 (ι := Nat) (fun (j : Nat) => [(1, iv v), (2, .ptr 2 0 0 0), (4, .ptr 4 0 0 0), (5, iv 0), (7, iv (zaZ m v (5 - v).toNat)), (8, iv (dbl j)), (10, iv (v - (j : Int)))]) (fun (j : Nat) => [(2, .box (mnE m) 23), (4, .box [iv 0, iv 0] 60)]) (fun (j : Nat) => j <= (v - 5).toNat) (fun (j : Nat) => (v - 5).toNat - j) 0 (fun j hk => ?_);apply yd;apply yb;refine yh ?_;refine yk rfl ?_ ?_<;>intro hc3
  ·have hb := zpK j (by omega);have hst := zqp j;apply yf;apply yd;apply X.block;apply yc;refine yp ?_;apply yc;refine yp ?_;refine yL (j + 1)
  ·have hj : j = (v - 5).toNat := by omega
   subst hj;apply X.exit;apply yb;(iterate 3 refine ya ?_);refine yi ?_;refine ye ?_;refine X.ret ?_;refine yF ty60 ?_ ?_;all_goals (first | rfl | (rw [if_neg hc1]; done) | (rw [if_neg hc1]; rfl) | (rw [if_pos hc1]; done) | (rw [if_pos hc1]; rfl) | (rw [hc1]; done) | (rw [hc1]; rfl))
theorem zbA (m : Mn) : Fn Tryz.prog 74 [mnA m] (.tup [yg (if ckM m = 0 then perfL m else []), iv (ckM m)]) := by
 have hq0 : [] = zcG m 0 := by unfold zcG; rfl
 have hq4 := zmf m;refine Fn.go Tryz.func74 Tryz.ntmps74 (fun g w d => ?_);apply yb;refine yH ?_;iterate 2 refine ya ?_
 apply yn;refine ya ?_;refine yr (zY m) ?_;refine ye ?_;apply yd;apply yb;refine yh ?_;refine yk rfl ?_ ?_<;>intro hc1
 ·apply yb;refine yp ?_;refine X.ret ?_;refine yu (yl (ts := [(2, yg []), (3, iv (ckM m))]) (hs := [])) ?_;refine yz ?_ ?_;all_goals (first | (rw [if_neg hc1]; done) | rfl | (rw [if_pos hc1, ← hq4]; rfl) | (rw [if_pos hc1, ← hq4]; done) | (rw [hc1]; done) | (rw [hc1]; rfl))
 apply yf;apply yb;refine ye ?_;iterate 2 apply yd
 refine y3 (yZ intE 3 1 5 5 rfl rfl) ?_;apply yc;refine ye ?_;apply X.block;refine y9 (ι := Nat) (fun (j : Nat) => [(1, .ptr 1 0 0 0), (5, .own 5), (6, iv (4 - (j : Int)))]) (fun (j : Nat) => [(1, .box (mnE m) 23), (5, .row intE (zcG m j) 3 1)]) (fun (j : Nat) => j <= 4) (fun (j : Nat) => 4 - j) 0 (fun j hk => ?_);apply yd;apply yb;refine yh ?_;refine yk rfl ?_ ?_<;>intro hc2
 ·have hlen := zmd m j;apply yf;apply yd;apply X.block;apply yb;iterate 2 refine ya ?_
  refine yr (zz m (4 - (j : Int))) ?_;refine ye ?_;refine yk rfl ?_ ?_<;>intro hc3
  ·have hrow := zme (by omega) hc3;apply yc;(iterate 2 refine ya ?_);refine yO intE [_] ?_;refine yi ?_;refine ye ?_;apply yc;refine yp ?_;refine yL (j + 1)
  ·have hrow := zmO (by omega) hc3;apply yf;apply yc;refine yp ?_;refine yL (j + 1)
 ·have hj : j = 4 := by omega
  subst hj;apply X.exit;apply yb;refine yp ?_;refine X.ret ?_;refine yu (Imp.freeze (k := 5) rfl) ?_;refine yz ?_ ?_;all_goals (first | (rw [if_neg hc1]; done) | rfl | (rw [if_pos hc1, ← hq4]; rfl) | (rw [if_pos hc1, ← hq4]; done) | (rw [hc1]; done) | (rw [hc1]; rfl))
end Go.Rse
