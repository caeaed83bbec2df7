/-
  Walks: times by definition (tactusref01).
-/
import Derived.Test.YtggdlojopkoegaaGreatDoorBSpan1
import Derived.Test.YtggdlojopkoegaaGreatDoorBJTime
import Derived.Test.YtggdlojopkoegaaGreatDoorBLogB
set_option linter.unusedSimpArgs false
set_option linter.unusedVariables false
namespace Go.Rse
open Go Go.Proofs
attribute [local irreducible] Pur yD yF Ex X Fn Imp LeV LeB FnO It yH
attribute [local irreducible] gI
theorem zhz (a b : Tm) : yS [a, b] = if ckT a = 0 then ckT b else ckT a := by
 simp only [yS];by_cases ha : ckT a = 0
 ·rw [if_pos ha, if_pos ha];by_cases hb : ckT b = 0
  ·rw [if_pos hb, hb]
  ·rw [if_neg hb]
 ·rw [if_neg ha, if_neg ha]
theorem zb0 (a b : Int) (h0 : 0 <= a) (h1 : a <= 9223372036854775807) (h2 : 0 <= b) (h3 : b <= 9223372036854775807) : Fn Tryz.prog 182 [iv a, iv b] (iv (gI a b)) := by
 refine Fn.go Tryz.func182 Tryz.ntmps182 (fun g w d => ?_);apply yb;refine yd ?_;apply ye;apply X.block
 refine zb (ι := Int × Int) (fun (p : Int × Int) => [(0, iv p.1), (1, iv p.2)]) (fun (p : Int × Int) => []) (fun (p : Int × Int) => 0 <= p.1 /\ 0 <= p.2 /\ p.1 <= 9223372036854775807 /\ p.2 <= 9223372036854775807 /\ gI p.1 p.2 = gI a b) (fun (p : Int × Int) => p.2.toNat) (a, b) (fun p hk => ?_) (hJ := by
  exact ⟨h0, h2, h1, h3, rfl⟩)
 obtain ⟨x, y⟩ := p;obtain ⟨k1, k2, k3, k4, k5⟩ := hk;dsimp only at *
 apply ye;apply yb;refine yg ?_;refine yj rfl ?_ ?_<;>intro hc1
 ·have e0 := Int.emod_nonneg x (show y ≠ 0 by omega);have e1 := Int.emod_lt_of_pos x hc1;apply yf;apply X.block;apply yb;iterate 4 refine ya ?_
  apply yk;refine yg ?_;apply yc;refine yg ?_
  refine yJ ((y, x % y)) (hJ := by
   exact ⟨by omega, e0, by dsimp only; omega, by dsimp only; omega, by rw [← k5]; exact ziy k1 hc1⟩)
 ·have hy0 : y = 0 := by omega
  subst hy0;apply X.exit;apply yb;refine yg ?_;refine X.ret ?_;refine yh ?_;all_goals (rw [← k5, zix k1])
theorem zX (t : Tm) : Fn Tryz.prog 141 [tmA t] (iv (ckT t)) := by
 refine Fn.go Tryz.func141 Tryz.ntmps141 (fun g w d => ?_);apply yb;refine yA ?_;refine yd ?_;apply ye;apply yb;iterate 3 refine ya ?_
 refine ExF.at 3 ?_;refine yG ?_;iterate 3 refine ExF.gi ?_
 iterate 2 refine yG ?_
 iterate 3 refine ExF.gi ?_
 iterate 2 refine yG ?_
 iterate 3 refine ExF.gi ?_
 refine yE ?_;refine yd ?_;refine yj rfl ?_ ?_<;>intro hc1
 ·apply yb;refine yd ?_;refine X.ret ?_;refine yh ?_;all_goals (congr 1; unfold ckT; rw [if_pos (by omega)])
 have hg := zd9 (n := t.N) (d := t.D) (by omega);apply yf;apply ye;apply yb;iterate 4 refine ya ?_
 refine ym (zb0 t.N t.D (by omega) (by omega) (by omega) (by omega)) ?_;refine yd ?_;refine yj rfl ?_ ?_<;>intro hc2
 ·apply yb;refine yd ?_;refine X.ret ?_;refine yh ?_;all_goals (congr 1; unfold ckT; rw [if_neg (by omega), if_pos (by omega)])
 apply yf;apply yb;refine yd ?_;refine X.ret ?_;refine yh ?_;all_goals (congr 1; unfold ckT; rw [if_neg (by omega), if_neg (by omega)])
theorem zcl (n q : Int) (h0 : 0 <= n) (h1 : n <= 9223372036854775807) (h2 : 1 <= q) (h3 : q <= 9223372036854775807) : Fn Tryz.prog 168 [iv n, iv q] (.tup [tmA (tmkT n q), iv (tmkE n q)]) := by
 have hg := zd9 (n := n) (d := q) (by omega);refine Fn.go Tryz.func168 Tryz.ntmps168 (fun g w d => ?_);apply yb;refine yC ?_;refine ya ?_;apply yk;iterate 2 refine ya ?_
 refine ym (zb0 n q (by omega) (by omega) (by omega) (by omega)) ?_;refine ya ?_;apply yk;iterate 4 refine ya ?_
 apply yk;refine zx ?_;apply ye;apply yb;iterate 2 refine ya ?_
 refine ExF.at 2 ?_;refine yG ?_;iterate 2 refine ExF.gi ?_
 refine yE ?_;refine yd ?_;refine yj rfl ?_ ?_<;>intro hc1
 ·have hE : tmkE n q = 4 := by unfold tmkE; rw [if_neg (by omega), if_neg (by omega), if_pos hc1]
  have hV : tmkT n q = tmZ := by unfold tmkT; rw [if_neg (by omega)]
  apply yb;refine ya ?_;refine Ex.mo ?_;refine yd ?_;refine X.ret ?_;refine yL ty40 ?_ ?_;all_goals (first | (rw [hE]; done) | (rw [hV]; rfl) | (rw [hE]; rfl) | (rw [hV]; done))
 have hE : tmkE n q = 0 := by unfold tmkE; rw [if_neg (by omega), if_neg (by omega), if_neg (fun h => by omega)]
 have hV : tmkT n q = ⟨n / gI n q, q / gI n q⟩ := by unfold tmkT; rw [if_pos hE]
 apply yf;apply yb;iterate 3 refine ya ?_
 refine Ex.mo ?_;refine yd ?_;refine X.ret ?_;refine yL ty40 ?_ ?_;all_goals (first | (rw [hE]; done) | (rw [hV]; rfl) | (rw [hE]; rfl) | (rw [hV]; done))
theorem zbC (n q : Int) (h0 : n <= 9223372036854775807) (h1 : q <= 9223372036854775807) : Fn Tryz.prog 242 [iv n, iv q] (.tup [tmA (tmkT n q), iv (tmkE n q)]) := by
 refine Fn.go Tryz.func242 Tryz.ntmps242 (fun g w d => ?_);apply yb;refine yC ?_;refine yd ?_;apply ye;apply yb;iterate 2 refine ya ?_
 refine ExF.at 2 ?_;refine yG ?_;iterate 2 refine ExF.gi ?_
 refine yE ?_;refine yd ?_;refine yj rfl ?_ ?_<;>intro hc1
 ·have hE : tmkE n q = 2 := by unfold tmkE; rw [if_pos hc1]
  have hV : tmkT n q = tmZ := by unfold tmkT; rw [if_neg (by omega)]
  apply yb;refine ya ?_;refine Ex.mo ?_;refine yd ?_;refine X.ret ?_;refine yL ty40 ?_ ?_;all_goals (first | rfl | (rw [hE]; done) | (rw [hV]; rfl) | (rw [hE]; rfl))
 apply yf;apply ye;apply yb;refine yg ?_;refine yj rfl ?_ ?_<;>intro hc2
 ·have hE : tmkE n q = 5 := by unfold tmkE; rw [if_neg (by omega), if_pos hc2]
  have hV : tmkT n q = tmZ := by unfold tmkT; rw [if_neg (by omega)]
  apply yb;refine ya ?_;refine Ex.mo ?_;refine yd ?_;refine X.ret ?_;refine yL ty40 ?_ ?_;all_goals (first | rfl | (rw [hE]; done) | (rw [hV]; rfl) | (rw [hE]; rfl))
 apply yf;apply yb;iterate 2 refine ya ?_
 refine ym (zcl n q (by omega) (by omega) (by omega) (by omega)) ?_;iterate 2 refine ya ?_
 refine Ex.mo ?_;refine yd ?_;refine X.ret ?_;refine yL ty40 ?_ ?_;all_goals (first | rfl | (rw [hE]; done) | (rw [hV]; rfl) | (rw [hE]; rfl))
theorem zbD (a b : Tm) : Fn Tryz.prog 167 [tmA a, tmA b] (iv (yS [a, b])) := by
 refine Fn.go Tryz.func167 Tryz.ntmps167 (fun g w d => ?_);apply yb;iterate 2 refine yA ?_
 refine ya ?_;apply yk;refine ya ?_;refine ym (zX a) ?_;refine yd ?_;apply ye;apply yb;refine yg ?_;refine yj rfl ?_ ?_<;>intro hc1
 ·apply yb;refine yg ?_;refine X.ret ?_;refine yh ?_;all_goals (congr 1; rw [zhz, if_neg hc1])
 apply yf;apply yb;refine ya ?_;refine ym (zX b) ?_;refine yd ?_;refine X.ret ?_;refine yh ?_;all_goals (congr 1; rw [zhz, if_pos hc1])
theorem zex (a b : Tm) : Fn Tryz.prog 245 [tmA a, tmA b] (.tup [tmA (subV a b), iv (subE a b)]) := by
 refine Fn.go Tryz.func245 Tryz.ntmps245 (fun g w d => ?_);apply yb;iterate 2 refine yA ?_
 refine yC ?_;refine ya ?_;apply yk;iterate 2 refine ya ?_
 refine ym (zbD a b) ?_;refine yd ?_;apply ye;apply yb;refine yg ?_;refine yj rfl ?_ ?_<;>intro hc1
 ·have hE : subE a b = yS [a, b] := by unfold subE; rw [if_neg hc1]
  have hV : subV a b = tmZ := by unfold subV; rw [if_neg hc1]
  apply yb;iterate 2 refine ya ?_
  refine Ex.mo ?_;refine yd ?_;refine X.ret ?_;refine yL ty40 ?_ ?_;all_goals (first | (rw [hE]; done) | (rw [hV]; rfl) | (rw [hE]; rfl) | (rw [hV]; done))
 have h12 := zda hc1;have b1 := zaW h12.1;have b2 := zaW h12.2;have m1 := mulB b1.1 b1.2.1 b2.2.2.1 b2.2.2.2.1;have m2 := mulB b2.1 b2.2.1 b1.2.2.1 b1.2.2.2.1;have m3 := mulB b1.2.2.1 b1.2.2.2.1 b2.2.2.1 b2.2.2.2.1;have m4 := mulP b1.2.2.2.2.1 b2.2.2.2.2.1;have hE : subE a b = tmkE (a.N * b.D - b.N * a.D) (a.D * b.D) := by unfold subE; rw [if_pos hc1]
 have hV : subV a b = tmkT (a.N * b.D - b.N * a.D) (a.D * b.D) := by unfold subV; rw [if_pos hc1]
 apply yf;apply ye;apply yb;iterate 10 refine ya ?_
 refine yd ?_;refine yj rfl ?_ ?_<;>intro hc2
 ·have h2 : tmkE (a.N * b.D - b.N * a.D) (a.D * b.D) = 2 := by unfold tmkE; rw [if_pos (by omega)]
  have h3 : tmkT (a.N * b.D - b.N * a.D) (a.D * b.D) = tmZ := by unfold tmkT; rw [if_neg (by omega)]
  rw [h2] at hE;rw [h3] at hV;apply yb;refine ya ?_;refine Ex.mo ?_;refine yd ?_;refine X.ret ?_;refine yL ty40 ?_ ?_;all_goals (first | (rw [hE]; done) | (rw [hV]; rfl) | (rw [hE]; rfl) | (rw [hV]; done))
 apply yf;apply yb;iterate 16 refine ya ?_
 refine ym (zcl (a.N * b.D - b.N * a.D) (a.D * b.D) (by omega) (by omega) (by omega) (by omega)) ?_;iterate 2 refine ya ?_
 refine Ex.mo ?_;refine yd ?_;refine X.ret ?_;refine yL ty40 ?_ ?_;all_goals (first | (rw [hE]; done) | (rw [hV]; rfl) | (rw [hE]; rfl) | (rw [hV]; done))
theorem zcU (a b : Tm) : Fn Tryz.prog 289 [tmA a, tmA b] (.tup [iv (cmpV a b), iv (yS [a, b])]) := by
 refine Fn.go Tryz.func289 Tryz.ntmps289 (fun g w d => ?_);apply yb;iterate 2 refine yA ?_
 iterate 2 refine ya ?_
 apply yk;iterate 2 refine ya ?_
 refine ym (zbD a b) ?_;refine yd ?_;apply ye;apply yb;refine yg ?_;refine yj rfl ?_ ?_<;>intro hc1
 ·have hV : cmpV a b = 0 := by unfold cmpV; rw [if_neg hc1]
  apply yb;refine yo ?_;refine X.ret ?_;refine yw ?_ ?_;all_goals (first | (rw [hV]; done) | rfl | (rw [hc1]; done))
 have h12 := zda hc1;have b1 := zaW h12.1;have b2 := zaW h12.2;have m1 := mulB b1.1 b1.2.1 b2.2.2.1 b2.2.2.2.1;have m2 := mulB b2.1 b2.2.1 b1.2.2.1 b1.2.2.2.1;have m3 := mulB b1.2.2.1 b1.2.2.2.1 b2.2.2.1 b2.2.2.2.1;have m4 := mulP b1.2.2.2.2.1 b2.2.2.2.2.1;apply yf;apply ye;refine zo [7,8,15,16,17,18,19,20,21,22,23,24] [0,1,0,4,15,0,32,0,128,480,31,2047] mo ?_;iterate 12 refine yi ?_
 refine yR ?_;apply Ex.nil;apply ye;apply X.block;apply yb;refine zx ?_;refine yj rfl ?_ ?_<;>intro hc2
 ·have hV : cmpV a b = -1 := by unfold cmpV; rw [if_pos hc1, if_pos (by omega)]
  apply yb;refine yg ?_;refine X.ret ?_;refine yw ?_ ?_;all_goals (first | (rw [hV]; done) | rfl | (rw [hc1]; done))
 apply yb;refine zx ?_;refine yj rfl ?_ ?_<;>intro hc3
 ·have hV : cmpV a b = 1 := by unfold cmpV; rw [if_pos hc1, if_neg (by omega), if_pos (by omega)]
  apply yb;refine yg ?_;refine X.ret ?_;refine yw ?_ ?_;all_goals (first | (rw [hV]; done) | rfl | (rw [hc1]; done))
 have hV : cmpV a b = 0 := by unfold cmpV; rw [if_pos hc1, if_neg (by omega), if_neg (by omega)]
 apply yf;apply yb;refine yg ?_;refine X.ret ?_;refine yw ?_ ?_;all_goals (first | (rw [hV]; done) | rfl | (rw [hc1]; done))
end Go.Rse
namespace Go.Rse
open Go Go.Proofs
attribute [local irreducible] Pur yD yF Ex X Fn Imp LeV LeB FnO It yH
theorem Mn.ok_L (m : Mn) : m.Ok ↔ ∀ v ∈ mnL m, two3 v := by simp [Mn.Ok, mnL]
theorem zst {m : Mn} {w : Int} (h : 4 < w) : m.p w = 2 := by
 unfold Mn.p; rw [if_neg (by omega), if_neg (by omega), if_neg (by omega), if_neg (by omega)]
theorem zoa {m : Mn} {v : Int} (h : ckMV m v = 0) : 1 <= v /\ v <= 8 := by
 unfold ckMV at h;split at h
 ·split at h
  ·assumption
  ·omega
 ·omega
theorem zC (m : Mn) : Fn Tryz.prog 94 [mnA m] (iv (ckM m)) := by
 refine Fn.go Tryz.func94 Tryz.ntmps94 (fun g w d => ?_);apply yb;refine yA ?_;refine ya ?_;apply yk;iterate 8 refine ya ?_
 refine yO intE [_, _, _, _] ?_;refine yd ?_;iterate 2 apply ye
 refine X.imp (Imp.freeze (k := 13) rfl) ?_;apply yc;refine yd ?_;apply X.block
 refine zb (ι := Nat) (fun (k : Nat) => [(3, yl (mnL m)), (4, iv (k : Int))]) (fun (k : Nat) => []) (fun (k : Nat) => k <= 4 /\ ∀ i v, i < k -> (mnL m)[i]? = some v -> two3 v) (fun (k : Nat) => 4 - k) 0 (fun k hk => ?_) (hJ := by
  exact ⟨by omega, fun i v h => absurd h (Nat.not_lt_zero i)⟩)
 obtain ⟨hk1, hk2⟩ := hk;have hl4 : (mnL m).length = 4 := rfl;apply ye;apply yb;refine zx ?_;refine yj rfl ?_ ?_<;>intro hc1
 ·obtain ⟨v, hv⟩ : ∃ v, (mnL m)[k]? = some v := ⟨_, lgg (by omega)⟩;have hv2 : (mnL m)[(k : Int).toNat]? = some v := by simpa using hv
  apply yf;apply ye;apply X.block;apply yb;iterate 5 refine ya ?_
  refine ExF.at 5 ?_;refine yG ?_;iterate 5 refine ExF.gi ?_
  refine yE ?_;refine yd ?_;refine yj rfl ?_ ?_<;>intro hc2
  ·apply yb;refine yd ?_;refine X.ret ?_;refine yh ?_;all_goals (congr 1; unfold ckM; rw [if_neg (fun h => by have := (m.ok_L.1 h) v (List.mem_of_getElem? hv); unfold two3 at this; omega)])
  apply yf;apply yc;refine yo ?_
  refine yJ (k + 1) (hJ := by
   refine ⟨by omega, fun i u hi hu => ?_⟩;rcases Nat.lt_succ_iff_lt_or_eq.1 hi with h | h
   ·exact hk2 i u h hu
   ·subst h; rw [hv] at hu; injection hu with hu; subst hu; unfold two3; omega)
 ·apply X.exit;apply yb;refine yd ?_;refine X.ret ?_;refine yh ?_;all_goals (congr 1; unfold ckM; rw [if_pos (m.ok_L.2 fun v hv => by obtain ⟨i, hi⟩ := List.mem_iff_getElem?.1 hv; exact hk2 i v (by have := (List.getElem?_eq_some_iff.1 hi).1; omega) hi)])
theorem zr (m : Mn) (v : Int) : Fn Tryz.prog 115 [mnA m, iv v] (iv (m.p v)) := by
 refine Fn.go Tryz.func115 Tryz.ntmps115 (fun g w d => ?_);apply yb;refine yA ?_;refine yd ?_;apply ye;apply yb;refine yd ?_;apply X.block;apply yb;refine yg ?_;refine yj rfl ?_ ?_<;>intro hc1
 ·apply yb;refine yo ?_;refine X.ret ?_;refine yh ?_;all_goals (congr 1; unfold Mn.p; simp [*])
 apply yb;refine yg ?_;refine yj rfl ?_ ?_<;>intro hc2
 ·apply yb;refine yo ?_;refine X.ret ?_;refine yh ?_;all_goals (congr 1; unfold Mn.p; simp [*])
 apply yb;refine yg ?_;refine yj rfl ?_ ?_<;>intro hc3
 ·apply yb;refine yo ?_;refine X.ret ?_;refine yh ?_;all_goals (congr 1; unfold Mn.p; simp [*])
 apply yb;refine yg ?_;refine yj rfl ?_ ?_<;>intro hc4
 ·apply yb;refine yo ?_;refine X.ret ?_;refine yh ?_;all_goals (congr 1; unfold Mn.p; simp [*])
 apply yf;apply yb;refine yd ?_;refine X.ret ?_;refine yh ?_;all_goals (congr 1; unfold Mn.p; simp [*])
theorem zdO (m : Mn) (v : Int) : Fn Tryz.prog 114 [mnA m, iv v] (iv (ckMV m v)) := by
 refine Fn.go Tryz.func114 Tryz.ntmps114 (fun g w d => ?_);apply yb;refine yA ?_;refine ya ?_;apply yk;refine ya ?_;refine ym (zC m) ?_;refine yd ?_;apply ye;apply yb;refine yg ?_;refine yj rfl ?_ ?_<;>intro hc1
 ·apply yb;refine yg ?_;refine X.ret ?_;refine yh ?_;all_goals (by_cases hm : m.Ok <;> simp_all [ckM, ckMV] <;> omega)
 apply yf;apply ye;apply yb;iterate 2 refine ya ?_
 refine ExF.at 2 ?_;refine yG ?_;iterate 2 refine ExF.gi ?_
 refine yE ?_;refine yd ?_;refine yj rfl ?_ ?_<;>intro hc2
 ·apply yb;refine yd ?_;refine X.ret ?_;refine yh ?_;all_goals (by_cases hm : m.Ok <;> simp_all [ckM, ckMV] <;> omega)
 apply yf;apply yb;refine yd ?_;refine X.ret ?_;refine yh ?_;all_goals (by_cases hm : m.Ok <;> simp_all [ckM, ckMV] <;> omega)
end Go.Rse
namespace Go.Rse
open Go Go.Proofs
attribute [local irreducible] Pur yD yF Ex X Fn Imp LeV LeB FnO It yH
def zaJ (m : Mn) (v : Int) : Nat -> Int
 | 0 => 1
 | n + 1 => zaJ m v n * m.p (v + n)
def dbl : Nat -> Int
 | 0 => 1
 | n + 1 => dbl n * 2
def yx (m : Mn) (v : Int) : Tm := ⟨zaJ m v (5 - v).toNat, dbl (v - 5).toNat⟩
theorem zfQ {m : Mn} (h : ckM m = 0) (v : Int) (h1 : 1 <= v) : m.p v = 2 \/ m.p v = 3 := by
 rcases Int.lt_or_le 4 v with h4 | h4
 ·exact .inl (zst h4)
 ·have ho : m.Ok := by
   unfold ckM at h; split at h
   ·assumption
   ·simp at h
  exact m.ok_iff.1 ho v h1 h4
def pw3 : Nat -> Int
 | 0 => 1
 | n + 1 => pw3 n * 3
theorem zim {m : Mn} (h : ckM m = 0) {v : Int} (h1 : 1 <= v) : ∀ n, 1 <= zaJ m v n /\ zaJ m v n <= pw3 n
 | 0 => ⟨Int.le_refl _, Int.le_refl _⟩
 | n + 1 => by
  obtain ⟨a, b⟩ := zim h h1 n;simp only [zaJ, pw3];rcases zfQ h (v + n) (by omega) with e | e <;> rw [e] <;> omega
theorem zpN : ∀ n, n <= 4 -> pw3 n <= 81
 | 0, _ => by decide
 | 1, _ => by decide
 | 2, _ => by decide
 | 3, _ => by decide
 | 4, _ => by decide
 | n + 5, h => by omega
theorem zpO : ∀ n, n <= 3 -> 1 <= dbl n /\ dbl n <= 8
 | 0, _ => by decide
 | 1, _ => by decide
 | 2, _ => by decide
 | 3, _ => by decide
 | n + 4, h => by omega
theorem zmH {m : Mn} {v : Int} (h : ckMV m v = 0) : ckM m = 0 /\ 1 <= v /\ v <= 8 := by
 have h2 := zoa h;refine ⟨?_, h2⟩;unfold ckMV at h; unfold ckM;split at h
 ·rw [if_pos (by assumption)]
 ·omega
def zcm (m : Mn) (j : Nat) : List Int := (([4, 3, 2, 1] : List Int).take j).filter fun v => decide (m.p v = 3)
theorem zlC (m : Mn) (j : Nat) : (zcm m j).length <= 4 := by
 unfold zcm;refine Nat.le_trans (List.length_filter_le _ _) ?_;simp; omega
theorem zhA (j : Nat) (h : j < 4) : ([4, 3, 2, 1] : List Int)[j]? = some (4 - (j : Int)) := by
 have : j = 0 \/ j = 1 \/ j = 2 \/ j = 3 := by omega
 rcases this with rfl | rfl | rfl | rfl <;> rfl
theorem zlD {m : Mn} {j : Nat} (h : j < 4) (hp : m.p (4 - (j : Int)) = 3) : zcm m j ++ [4 - (j : Int)] = zcm m (j + 1) := by
 unfold zcm;rw [List.take_add_one, zhA j h, List.filter_append]; simp [hp]
theorem zmI {m : Mn} {j : Nat} (h : j < 4) (hp : ¬ m.p (4 - (j : Int)) = 3) : zcm m j = zcm m (j + 1) := by
 unfold zcm;rw [List.take_add_one, zhA j h, List.filter_append]; simp [hp]
theorem zlE (m : Mn) : zcm m 4 = perfL m := rfl
theorem zkG (m : Mn) (v : Int) (j : Nat) : zaJ m v j * m.p (v + (j : Int)) = zaJ m v (j + 1) := rfl
theorem zpP (j : Nat) : dbl j * 2 = dbl (j + 1) := rfl
theorem zqU (j : Nat) : 2 * dbl j = dbl (j + 1) := by rw [← zpP]; exact Int.mul_comm _ _
attribute [local irreducible] zaJ dbl zcm perfL
theorem zjb (m : Mn) (v : Int) (hm : ckM m = 0) (h1 : 1 <= v) (h8 : v <= 8) : Fn Tryz.prog 212 [mnA m, iv v] (tmA (yx m v)) := by
 have hp0 : zaJ m v 0 = 1 := by unfold zaJ; rfl
 have hd0 : dbl 0 = 1 := by unfold dbl; rfl
 refine Fn.go Tryz.func212 Tryz.ntmps212 (fun g w d => ?_);apply yb;refine yA ?_;refine yC ?_;apply yk;refine yg ?_;apply ye;apply yb;refine yg ?_;apply X.block;refine zb (ι := Nat) (fun (j : Nat) => [(1, iv v), (2, .ptr 2 0 0 0), (4, .ptr 4 0 0 0), (5, iv (zaJ m v j)), (6, iv 1), (7, iv (v + (j : Int)))]) (fun (j : Nat) => [(2, .box (mnE m) 23), (4, .box [iv 0, iv 0] 40)]) (fun (j : Nat) => j <= (5 - v).toNat) (fun (j : Nat) => (5 - v).toNat - j) 0 (fun j hk => ?_);apply ye;apply yb;refine yg ?_;refine yj rfl ?_ ?_<;>intro hc1
 ·have hjv : j < (5 - v).toNat := by omega
  have hb := zim (m := m) hm h1 j;have hb2 := zpN j (by omega);have hp := zfQ hm (v + j) (by omega);have hst := zkG m v j;have hpm : 0 <= zaJ m v j * m.p (v + (j : Int)) /\ zaJ m v j * m.p (v + (j : Int)) <= 1000 := by rcases hp with e | e <;> rw [e] <;> omega
  apply yf;apply ye;apply X.block;apply yc;iterate 3 refine ya ?_
  refine ym (zhG m (v + (j : Int)) (by omega) (by omega)) ?_;refine yg ?_;apply yc;refine yo ?_;refine yJ (j + 1)
 ·have hj : j = (5 - v).toNat := by omega
  subst hj;apply X.exit;apply ye;apply yb;refine yd ?_;apply X.block;refine zb (ι := Nat) (fun (j : Nat) => [(1, iv v), (2, .ptr 2 0 0 0), (4, .ptr 4 0 0 0), (5, iv (zaJ m v (5 - v).toNat)), (6, iv (dbl j)), (8, iv (5 + (j : Int)))]) (fun (j : Nat) => [(2, .box (mnE m) 23), (4, .box [iv 0, iv 0] 40)]) (fun (j : Nat) => j <= (v - 5).toNat) (fun (j : Nat) => (v - 5).toNat - j) 0 (fun j hk => ?_);apply ye;apply yb;refine yo ?_;refine yj rfl ?_ ?_<;>intro hc2
  ·have hb := zpO j (by omega);have hst := zpP j;apply yf;apply ye;apply X.block;apply yc;refine yo ?_;apply yc;refine yo ?_;refine yJ (j + 1)
  ·have hj : j = (v - 5).toNat := by omega
   subst hj;apply X.exit;apply yb;(iterate 3 refine ya ?_);refine Ex.mo ?_;apply Ex.nil;refine X.ret ?_;refine RetQ.ret (.one (.cellA rfl rfl rfl rfl ty40 (LeV.eq ?_)));all_goals (rfl)
theorem zjc (m : Mn) (v : Int) : Fn Tryz.prog 163 [mnA m, iv v] (.tup [tmA (if ckMV m v = 0 then yx m v else tmZ), iv (ckMV m v)]) := by
 refine Fn.go Tryz.func163 Tryz.ntmps163 (fun g w d => ?_);apply yb;refine yA ?_;refine yC ?_;refine yd ?_;apply ye;apply yb;iterate 2 refine ya ?_
 refine ym (zbK m v) ?_;refine ya ?_;apply yk;refine yg ?_;refine yj rfl ?_ ?_<;>intro hc1
 ·apply yb;iterate 2 refine ya ?_
  refine Ex.mo ?_;refine yd ?_;refine X.ret ?_;refine yL ty40 ?_ ?_;all_goals (first | rfl | (rw [if_neg hc1]; done) | (rw [if_neg hc1]; rfl) | (rw [if_pos hc1]; done) | (rw [if_pos hc1]; rfl) | (rw [hc1]; done) | (rw [hc1]; rfl))
 have h3 := zmH hc1;apply yf;apply yb;iterate 2 refine ya ?_
 refine ym (zjb m v h3.1 h3.2.1 h3.2.2) ?_;refine Ex.mo ?_;refine yd ?_;refine X.ret ?_;refine yL ty40 ?_ ?_;all_goals (first | rfl | (rw [if_neg hc1]; done) | (rw [if_neg hc1]; rfl) | (rw [if_pos hc1]; done) | (rw [if_pos hc1]; rfl) | (rw [hc1]; done) | (rw [hc1]; rfl))
theorem zd4 (m : Mn) (v : Int) : Fn Tryz.prog 51 [mnA m, iv v] (.tup [tmA (if ckMV m v = 0 then yx m v else tmZ), iv (ckMV m v)]) := by
 have hp0 : zaJ m v 0 = 1 := by unfold zaJ; rfl
 have hd0 : dbl 0 = 1 := by unfold dbl; rfl
 refine Fn.go Tryz.func51 Tryz.ntmps51 (fun g w d => ?_);apply yb;refine yA ?_;refine yC ?_;refine ya ?_;apply yk;iterate 2 refine ya ?_
 refine ym (zdO m v) ?_;refine yd ?_;apply ye;apply yb;refine yg ?_;refine yj rfl ?_ ?_<;>intro hc1
 ·apply yb;iterate 2 refine ya ?_
  refine Ex.mo ?_;refine yd ?_;refine X.ret ?_;refine yL ty40 ?_ ?_;all_goals (first | rfl | (rw [if_neg hc1]; done) | (rw [if_neg hc1]; rfl) | (rw [if_pos hc1]; done) | (rw [if_pos hc1]; rfl) | (rw [hc1]; done) | (rw [hc1]; rfl))
 have h3 := zmH hc1;have hm := h3.1;have h1 := h3.2.1;have h8 := h3.2.2;apply yf;apply yb;refine yg ?_;apply ye;apply yb;refine yg ?_;apply X.block;refine zb (ι := Nat) (fun (j : Nat) => [(1, iv v), (2, .ptr 2 0 0 0), (4, .ptr 4 0 0 0), (5, iv 0), (7, iv (zaJ m v j)), (8, iv 1), (9, iv (v + (j : Int)))]) (fun (j : Nat) => [(2, .box (mnE m) 23), (4, .box [iv 0, iv 0] 40)]) (fun (j : Nat) => j <= (5 - v).toNat) (fun (j : Nat) => (5 - v).toNat - j) 0 (fun j hk => ?_);apply ye;apply yb;refine yg ?_;refine yj rfl ?_ ?_<;>intro hc2
 ·have hjv : j < (5 - v).toNat := by omega
  have hb := zim (m := m) hm h1 j;have hb2 := zpN j (by omega);have hp := zfQ hm (v + j) (by omega);have hst := zkG m v j;have hpm : 0 <= zaJ m v j * m.p (v + (j : Int)) /\ zaJ m v j * m.p (v + (j : Int)) <= 1000 := by rcases hp with e | e <;> rw [e] <;> omega
  apply yf;apply ye;apply X.block;apply yc;iterate 3 refine ya ?_
  refine ym (zr m (v + (j : Int))) ?_;refine yg ?_;apply yc;refine yo ?_;refine yJ (j + 1)
 ·have hj : j = (5 - v).toNat := by omega
  subst hj;apply X.exit;apply ye;apply yb;refine yg ?_;apply X.block;refine zb (ι := Nat) (fun (j : Nat) => [(1, iv v), (2, .ptr 2 0 0 0), (4, .ptr 4 0 0 0), (5, iv 0), (7, iv (zaJ m v (5 - v).toNat)), (8, iv (dbl j)), (10, iv (v - (j : Int)))]) (fun (j : Nat) => [(2, .box (mnE m) 23), (4, .box [iv 0, iv 0] 40)]) (fun (j : Nat) => j <= (v - 5).toNat) (fun (j : Nat) => (v - 5).toNat - j) 0 (fun j hk => ?_);apply ye;apply yb;refine yg ?_;refine yj rfl ?_ ?_<;>intro hc3
  ·have hb := zpO j (by omega);have hst := zqU j;apply yf;apply ye;apply X.block;apply yc;refine yo ?_;apply yc;refine yo ?_;refine yJ (j + 1)
  ·have hj : j = (v - 5).toNat := by omega
   subst hj;apply X.exit;apply yb;(iterate 3 refine ya ?_);refine Ex.mo ?_;refine yd ?_;refine X.ret ?_;refine yL ty40 ?_ ?_;all_goals (first | rfl | (rw [if_neg hc1]; done) | (rw [if_neg hc1]; rfl) | (rw [if_pos hc1]; done) | (rw [if_pos hc1]; rfl) | (rw [hc1]; done) | (rw [hc1]; rfl))
theorem zc5 (m : Mn) : Fn Tryz.prog 257 [mnA m] (.tup [yl (if ckM m = 0 then perfL m else []), iv (ckM m)]) := by
 have hq0 : [] = zcm m 0 := by unfold zcm; rfl
 have hq4 := zlE m;refine Fn.go Tryz.func257 Tryz.ntmps257 (fun g w d => ?_);apply yb;refine yA ?_;iterate 2 refine ya ?_
 apply yk;refine ya ?_;refine ym (zC m) ?_;refine yd ?_;apply ye;apply yb;refine yg ?_;refine yj rfl ?_ ?_<;>intro hc1
 ·apply yb;refine yo ?_;refine X.ret ?_;refine RetQ.imp (yn (ts := [(2, yl []), (3, iv (ckM m))]) (hs := [])) ?_;refine yw ?_ ?_;all_goals (first | (rw [if_neg hc1]; done) | rfl | (rw [if_pos hc1, ← hq4]; rfl) | (rw [if_pos hc1, ← hq4]; done) | (rw [hc1]; done) | (rw [hc1]; rfl))
 apply yf;apply yb;refine yd ?_;iterate 2 apply ye
 refine X.imp (yZ intE 3 1 5 5 rfl rfl) ?_;apply yc;refine yd ?_;apply X.block;refine zb (ι := Nat) (fun (j : Nat) => [(1, .ptr 1 0 0 0), (5, .own 5), (6, iv (4 - (j : Int)))]) (fun (j : Nat) => [(1, .box (mnE m) 23), (5, .row intE (zcm m j) 3 1)]) (fun (j : Nat) => j <= 4) (fun (j : Nat) => 4 - j) 0 (fun j hk => ?_);apply ye;apply yb;refine yg ?_;refine yj rfl ?_ ?_<;>intro hc2
 ·have hlen := zlC m j;apply yf;apply ye;apply X.block;apply yb;iterate 2 refine ya ?_
  refine ym (zr m (4 - (j : Int))) ?_;refine yd ?_;refine yj rfl ?_ ?_<;>intro hc3
  ·have hrow := zlD (by omega) hc3;apply yc;(iterate 2 refine ya ?_);refine yO intE [_] ?_;refine Ex.mo ?_;refine yd ?_;apply yc;refine yo ?_;refine yJ (j + 1)
  ·have hrow := zmI (by omega) hc3;apply yf;apply yc;refine yo ?_;refine yJ (j + 1)
 ·have hj : j = 4 := by omega
  subst hj;apply X.exit;apply yb;refine yo ?_;refine X.ret ?_;refine RetQ.imp (Imp.freeze (k := 5) rfl) ?_;refine yw ?_ ?_;all_goals (first | (rw [if_neg hc1]; done) | rfl | (rw [if_pos hc1, ← hq4]; rfl) | (rw [if_pos hc1, ← hq4]; done) | (rw [hc1]; done) | (rw [hc1]; rfl))
end Go.Rse
