/-
  Plain: times as fractions: greatest common divisors, validity, arithmetic.
-/
import Derived.Test.YtbilklnipfabpaaGreatDoorPTk
import Derived.Test.YtbilklnipfabpaaGreatDoorPJMens2
import Derived.Test.YtbilklnipfabpaaGreatDoorPLogB
set_option linter.unusedSimpArgs false
set_option linter.unusedVariables false
namespace Go.Rse
open Go Go.Proofs
def gI (a b : Int) : Int := (Nat.gcd a.natAbs b.natAbs : Nat)
theorem zoX {a : Int} (h : 0 <= a) : gI a 0 = a := by
 unfold gI; simp; omega
theorem zoY {a b : Int} (ha : 0 <= a) (hb : 0 < b) : gI b (a % b) = gI a b := by
 obtain ⟨m, rfl⟩ := Int.eq_ofNat_of_zero_le ha;obtain ⟨n, rfl⟩ := Int.eq_ofNat_of_zero_le (Int.le_of_lt hb);unfold gI;have : ((m : Int) % (n : Int)).natAbs = m % n := by rw [← Int.natCast_emod]; exact Int.natAbs_natCast _
 rw [this]; simp only [Int.natAbs_natCast];rw [Nat.gcd_comm n (m % n), ← Nat.gcd_rec, Nat.gcd_comm]
theorem zeJ {n d : Int} (h : 0 < d) : 0 < gI n d := by
 unfold gI;have : 0 < Nat.gcd n.natAbs d.natAbs := Nat.gcd_pos_of_pos_right _ (by omega);omega
def tmZ : Tm := ⟨0, 0⟩
def ckT (t : Tm) : Int := if t.N < 0 \/ 1099511627776 < t.N \/ t.D < 1 \/ 1048576 < t.D then 2 else if 1 < gI t.N t.D then 3 else 0
theorem zB {t : Tm} (h : ckT t = 0) : 0 <= t.N /\ t.N <= 1099511627776 /\ 0 <= t.D /\ t.D <= 1048576 /\ 1 <= t.D /\ gI t.N t.D = 1 := by
 unfold ckT at h;split at h
 ·simp at h
 ·split at h
  ·simp at h
  ·have := zeJ (n := t.N) (d := t.D) (by omega); omega
def yL : List Tm -> Int
 | [] => 0
 | t :: r => if ckT t = 0 then yL r else ckT t
theorem zbF {l : List Tm} {k : Nat} {t : Tm} (h : l[k]? = some t) : yL (l.drop k) = if ckT t = 0 then yL (l.drop (k + 1)) else ckT t := by
 have h1 := List.getElem?_eq_some_iff.1 h;rw [List.drop_eq_getElem_cons h1.1, h1.2]; rfl
theorem zeK {a b : Tm} (h : yL [a, b] = 0) : ckT a = 0 /\ ckT b = 0 := by
 simp only [yL] at h;by_cases ha : ckT a = 0
 ·rw [if_pos ha] at h;by_cases hb : ckT b = 0
  ·exact ⟨ha, hb⟩
  ·rw [if_neg hb] at h; exact absurd h hb
 ·rw [if_neg ha] at h; exact absurd h ha
theorem zhe : ∀ {l : List Tm}, yL l = 0 -> ∀ t ∈ l, ckT t = 0
 | [], _, t, ht => by simp at ht
 | s :: r, h, t, ht => by
  simp only [yL] at h;by_cases hs : ckT s = 0
  ·rw [if_pos hs] at h;rcases List.mem_cons.1 ht with rfl | ht
   ·exact hs
   ·exact zhe h t ht
  ·rw [if_neg hs] at h; exact absurd h hs
theorem mulB {x y X Y : Int} (h1 : 0 <= x) (h2 : x <= X) (h3 : 0 <= y) (h4 : y <= Y) : 0 <= x * y /\ x * y <= X * Y :=
 ⟨Int.mul_nonneg h1 h3, Int.mul_le_mul h2 h4 h3 (Int.le_trans h1 h2)⟩
theorem mulP {x y : Int} (h1 : 1 <= x) (h2 : 1 <= y) : 1 <= x * y := by
 have := Int.mul_le_mul h1 h2 (by omega) (by omega); simpa using this
def tmkE (n d : Int) : Int := if n < 0 \/ d < 0 then 2 else if d = 0 then 5 else if 1099511627776 < n / gI n d \/ 1048576 < d / gI n d then 4 else 0
def tmkT (n d : Int) : Tm := if tmkE n d = 0 then ⟨n / gI n d, d / gI n d⟩ else tmZ
def addE (a b : Tm) : Int := if yL [a, b] = 0 then tmkE (a.N * b.D + b.N * a.D) (a.D * b.D) else yL [a, b]
def addV (a b : Tm) : Tm := if yL [a, b] = 0 then tmkT (a.N * b.D + b.N * a.D) (a.D * b.D) else tmZ
def subE (a b : Tm) : Int := if yL [a, b] = 0 then tmkE (a.N * b.D - b.N * a.D) (a.D * b.D) else yL [a, b]
def subV (a b : Tm) : Tm := if yL [a, b] = 0 then tmkT (a.N * b.D - b.N * a.D) (a.D * b.D) else tmZ
def bigQ (a b c d : Int) : Prop := (0 < a /\ 1099511627776 / a < c) \/ (0 < d /\ 1048576 / d < b)
instance (a b c d : Int) : Decidable (bigQ a b c d) := inferInstanceAs (Decidable (_ \/ _))
def tmsE (a b c d : Int) : Int := if bigQ (a / gI a d) (b / gI c b) (c / gI c b) (d / gI a d) then 4 else tmkE (a / gI a d * (c / gI c b)) (b / gI c b * (d / gI a d))
def tmsV (a b c d : Int) : Tm := if bigQ (a / gI a d) (b / gI c b) (c / gI c b) (d / gI a d) then tmZ else tmkT (a / gI a d * (c / gI c b)) (b / gI c b * (d / gI a d))
def mulE (a b : Tm) : Int := if yL [a, b] = 0 then tmsE a.N a.D b.N b.D else yL [a, b]
def mulV (a b : Tm) : Tm := if yL [a, b] = 0 then tmsV a.N a.D b.N b.D else tmZ
def cmpV (a b : Tm) : Int := if yL [a, b] = 0 then (if a.N * b.D < b.N * a.D then -1 else if b.N * a.D < a.N * b.D then 1 else 0) else 0
def sumF : Tm -> List Tm -> Tm × Int
 | s, [] => (s, 0)
 | s, t :: r => if addE s t = 0 then sumF (addV s t) r else (tmZ, addE s t)
theorem zhf {l : List Tm} {k : Nat} {t s : Tm} (h : l[k]? = some t) : sumF s (l.drop k) = if addE s t = 0 then sumF (addV s t) (l.drop (k + 1)) else (tmZ, addE s t) := by
 have h1 := List.getElem?_eq_some_iff.1 h;rw [List.drop_eq_getElem_cons h1.1, h1.2]; rfl
def sumE (l : List Tm) : Int := if yL l = 0 then (sumF ⟨0, 1⟩ l).2 else yL l
def sumV (l : List Tm) : Tm := if yL l = 0 then (sumF ⟨0, 1⟩ l).1 else tmZ
theorem zhg {a c M : Int} (ha : 0 < a) (hM : 0 <= M) (h : ¬ M / a < c) : a * c <= M := by
 have h1 : c <= M / a := by omega
 have h2 := Int.mul_le_mul_of_nonneg_left h1 (Int.le_of_lt ha);exact Int.le_trans h2 (Int.mul_ediv_self_le (by omega))
end Go.Rse
namespace Go.Rse
open Go Go.Proofs
attribute [local irreducible] Pur yx yz Ex X Fn Imp LeV LeB FnO It yC
attribute [local irreducible] gI
theorem zic (a b : Int) (h0 : 0 <= a) (h1 : a <= 9223372036854775807) (h2 : 0 < b) : Fn Tryz.prog 115 [iv a, iv b] (.tup [iv (a / b), iv (a % b)]) := by
 refine Fn.go Tryz.func115 Tryz.ntmps115 (fun g w d => ?_);apply yb;refine yh ?_;apply yd;refine zy [4,5,6,7,8,9,10,11] [0,0,3,0,0,24,7,127] mo ?_;iterate 8 refine yl ?_
 refine y7 ?_;apply Ex.nil;refine X.ret ?_;refine yu ?_ ?_;all_goals (first | rfl | (simp_all; done))
theorem zaE (a b : Int) (h0 : 0 <= a) (h1 : a <= 9223372036854775807) (h2 : 0 <= b) (h3 : b <= 9223372036854775807) : Fn Tryz.prog 105 [iv a, iv b] (iv (gI a b)) := by
 induction hn : b.toNat using Nat.strongRecOn generalizing a b
 rename_i n ih;refine Fn.go Tryz.func105 Tryz.ntmps105 (fun g w d => ?_);apply yb;refine ye ?_;apply yd;apply yb;refine yh ?_;refine yk rfl ?_ ?_<;>intro hc1
 ·apply yb;refine yh ?_;refine X.ret ?_;refine ym ?_;all_goals (rw [hc1, zoX h0])
 have hb0 : 0 < b := by omega
 have e0 := Int.emod_nonneg a (show b ≠ 0 by omega);have e1 := Int.emod_lt_of_pos a hb0;apply yf;apply yb;iterate 2 refine ya ?_
 refine yq (zic a b h0 h1 hb0) ?_;iterate 5 refine ya ?_
 apply yj;iterate 2 refine ya ?_
 refine yq (ih (a % b).toNat (by omega) b (a % b) h2 h3 e0 (by omega) rfl) ?_;refine ye ?_;refine X.ret ?_;refine ym ?_;all_goals (rw [zoY h0 hb0])
theorem zch (t : Tm) : Fn Tryz.prog 59 [tmA t] (iv (ckT t)) := by
 refine Fn.go Tryz.func59 Tryz.ntmps59 (fun g w d => ?_);apply yb;refine yF ?_;refine ye ?_;apply yd;apply X.block;apply yb;iterate 3 refine ya ?_
 refine ExF.at 3 ?_;refine yI ?_;iterate 3 refine ExF.gi ?_
 iterate 2 refine yI ?_
 iterate 3 refine ExF.gi ?_
 iterate 2 refine yI ?_
 iterate 3 refine ExF.gi ?_
 refine yA ?_;refine yh ?_;refine yk rfl ?_ ?_<;>intro hc1
 ·apply yb;refine ye ?_;refine X.ret ?_;refine ym ?_;all_goals (congr 1; unfold ckT; rw [if_pos (by omega)])
 apply yb;iterate 4 refine ya ?_
 refine yq (zaE t.N t.D (by omega) (by omega) (by omega) (by omega)) ?_;refine yh ?_;refine yk rfl ?_ ?_<;>intro hc2
 ·apply yb;refine ye ?_;refine X.ret ?_;refine ym ?_;all_goals (congr 1; unfold ckT; rw [if_neg (by omega), if_pos hc2])
 apply yf;apply yb;refine ye ?_;refine X.ret ?_;refine ym ?_;all_goals (congr 1; unfold ckT; rw [if_neg (by omega), if_neg (by omega)])
theorem zaf (l : List Tm) (hl : l.length <= 4000000000) : Fn Tryz.prog 62 [tmsA l] (iv (yL l)) := by
 refine Fn.go Tryz.func62 Tryz.ntmps62 (fun g w d => ?_);apply yb;refine ye ?_;apply yd;apply yb;refine yn ?_;apply X.block
 refine zh (ι := Nat) (fun (k : Nat) => [(6, tmsA l), (7, iv l.length), (8, iv (k : Int))]) (fun (k : Nat) => []) (fun (k : Nat) => k <= l.length /\ yL l = yL (l.drop k)) (fun (k : Nat) => l.length - k) 0 (fun k hk => ?_) (hJ := by
  exact ⟨by omega, rfl⟩)
 obtain ⟨hk1, hk2⟩ := hk;apply yb;refine ye ?_;apply yd;refine yk rfl ?_ ?_<;>intro hc1
 ·obtain ⟨t, ht⟩ : ∃ t, l[k]? = some t := ⟨_, lgg (by omega)⟩;have ht2 : l[(k : Int).toNat]? = some t := by simpa using ht
  apply yf;apply yd;apply X.block;apply yb;iterate 2 refine ya ?_
  refine yH ?_;refine Ex.mo ?_;apply yj;refine ya ?_;refine yq (zch t) ?_;refine ya ?_;apply yj;refine yh ?_;refine yk rfl ?_ ?_<;>intro hc2
  ·apply yb;refine yh ?_;refine X.ret ?_;refine ym ?_;all_goals (congr 1; rw [hk2, zbF ht, if_neg hc2])
  apply yf;apply yc;refine yh ?_
  refine yP (k + 1) (hJ := by
   exact ⟨by omega, by rw [hk2, zbF ht, if_pos hc2]⟩)
 ·apply X.exit;apply yb;refine ye ?_;refine X.ret ?_;refine ym ?_;all_goals (congr 1; rw [hk2, List.drop_of_length_le (by omega)]; rfl)
theorem zcP (n q : Int) (h0 : n <= 9223372036854775807) (h1 : q <= 9223372036854775807) (hm : -9223372036854775808 <= n) : Fn Tryz.prog 107 [iv n, iv q] (.tup [tmA (tmkT n q), iv (tmkE n q)]) := by
 refine Fn.go Tryz.func107 Tryz.ntmps107 (fun g w d => ?_);apply yb;refine yH ?_;refine ye ?_;apply yd;apply X.block;apply yb;iterate 2 refine ya ?_
 refine ExF.at 2 ?_;refine yI ?_;iterate 2 refine ExF.gi ?_
 refine yA ?_;refine yh ?_;refine yk rfl ?_ ?_<;>intro hc1
 ·have hE : tmkE n q = 2 := by unfold tmkE; rw [if_pos hc1]
  have hV : tmkT n q = tmZ := by unfold tmkT; rw [if_neg (by omega)]
  apply yb;refine ya ?_;refine Ex.mo ?_;refine ye ?_;refine X.ret ?_;refine y6 ty46 ?_ ?_;all_goals (first | (rw [hE]; done) | (rw [hV]; rfl) | (rw [hE]; rfl) | (rw [hV]; done))
 apply yb;refine yn ?_;refine yk rfl ?_ ?_<;>intro hc2
 ·have hE : tmkE n q = 5 := by unfold tmkE; rw [if_neg (by omega), if_pos hc2]
  have hV : tmkT n q = tmZ := by unfold tmkT; rw [if_neg (by omega)]
  apply yb;refine ya ?_;refine Ex.mo ?_;refine ye ?_;refine X.ret ?_;refine y6 ty46 ?_ ?_;all_goals (first | (rw [hE]; done) | (rw [hV]; rfl) | (rw [hE]; rfl) | (rw [hV]; done))
 have hg := zeJ (n := n) (d := q) (by omega);apply yf;apply yb;iterate 2 refine ya ?_
 refine yq (zaE n q (by omega) (by omega) (by omega) (by omega)) ?_;refine ye ?_;apply yd;refine zy [7,23,24,25,26,27,28,29] [0,0,3,0,0,24,63,0,255] mo ?_;iterate 7 refine yl ?_
 refine ChM.step rfl rfl rfl (zaW (k := 7) zc46) rfl ?_;refine y7 ?_;refine Ex.mo ?_;apply Ex.nil;apply yd;apply yb;iterate 3 refine ya ?_
 refine ExF.at 3 ?_;refine yI ?_;iterate 3 refine ExF.gi ?_
 refine yA ?_;refine ye ?_;refine yk rfl ?_ ?_<;>intro hc3
 ·have hE : tmkE n q = 4 := by unfold tmkE; rw [if_neg (by omega), if_neg (by omega), if_pos hc3]
  have hV : tmkT n q = tmZ := by unfold tmkT; rw [if_neg (by omega)]
  apply yb;refine ya ?_;refine Ex.mo ?_;refine ye ?_;refine X.ret ?_;refine y6 ty46 ?_ ?_;all_goals (first | (rw [hE]; done) | (rw [hV]; rfl) | (rw [hE]; rfl) | (rw [hV]; done))
 have hE : tmkE n q = 0 := by unfold tmkE; rw [if_neg (by omega), if_neg (by omega), if_neg (fun h => by omega)]
 have hV : tmkT n q = ⟨n / gI n q, q / gI n q⟩ := by unfold tmkT; rw [if_pos hE]
 apply yf;apply yb;refine ya ?_;refine Ex.mo ?_;refine ye ?_;refine X.ret ?_;refine y6 ty46 ?_ ?_;all_goals (first | (rw [hE]; done) | (rw [hV]; rfl) | (rw [hE]; rfl) | (rw [hV]; done))
theorem zaR (a b : Tm) : Fn Tryz.prog 63 [tmA a, tmA b] (.tup [tmA (addV a b), iv (addE a b)]) := by
 refine Fn.go Tryz.func63 Tryz.ntmps63 (fun g w d => ?_);apply yb;iterate 2 refine yF ?_
 refine yH ?_;refine ye ?_;apply yd;apply yb;iterate 2 refine ya ?_
 refine y2 tmE [⟨_, _⟩, ⟨_, _⟩] ?_;refine Ex.imp (Imp.freeze (k := 9) rfl) ?_;refine yq (zaf [a, b] (by simp)) ?_;refine ya ?_;apply yj;refine yh ?_;refine yk rfl ?_ ?_<;>intro hc1
 ·have hE : addE a b = yL [a, b] := by unfold addE; rw [if_neg hc1]
  have hV : addV a b = tmZ := by unfold addV; rw [if_neg hc1]
  apply yb;iterate 2 refine ya ?_
  refine Ex.mo ?_;refine ye ?_;refine X.ret ?_;refine y6 ty46 ?_ ?_;all_goals (first | (rw [hE]; done) | (rw [hV]; rfl) | (unfold addE; rw [if_pos hc1]; done) | (unfold addV; rw [if_pos hc1]; done) | (unfold addV; rw [if_pos hc1]; rfl))
 have h12 := zeK hc1;have b1 := zB h12.1;have b2 := zB h12.2;have m1 := mulB b1.1 b1.2.1 b2.2.2.1 b2.2.2.2.1;have m2 := mulB b2.1 b2.2.1 b1.2.2.1 b1.2.2.2.1;have m3 := mulB b1.2.2.1 b1.2.2.2.1 b2.2.2.1 b2.2.2.2.1;have m4 := mulP b1.2.2.2.2.1 b2.2.2.2.2.1;apply yf;apply yb;iterate 16 refine ya ?_
 refine yq (zcP (a.N * b.D + b.N * a.D) (a.D * b.D) (by omega) (by omega) (by omega)) ?_;iterate 2 refine ya ?_
 refine Ex.mo ?_;refine ye ?_;refine X.ret ?_;refine y6 ty46 ?_ ?_;all_goals (first | (rw [hE]; done) | (rw [hV]; rfl) | (unfold addE; rw [if_pos hc1]; done) | (unfold addV; rw [if_pos hc1]; done) | (unfold addV; rw [if_pos hc1]; rfl))
theorem zci (a b : Tm) : Fn Tryz.prog 121 [tmA a, tmA b] (.tup [tmA (subV a b), iv (subE a b)]) := by
 refine Fn.go Tryz.func121 Tryz.ntmps121 (fun g w d => ?_);apply yb;iterate 2 refine yF ?_
 refine yH ?_;refine ye ?_;apply yd;apply yb;iterate 2 refine ya ?_
 refine y2 tmE [⟨_, _⟩, ⟨_, _⟩] ?_;refine Ex.imp (Imp.freeze (k := 9) rfl) ?_;refine yq (zaf [a, b] (by simp)) ?_;refine ya ?_;apply yj;refine yh ?_;refine yk rfl ?_ ?_<;>intro hc1
 ·have hE : subE a b = yL [a, b] := by unfold subE; rw [if_neg hc1]
  have hV : subV a b = tmZ := by unfold subV; rw [if_neg hc1]
  apply yb;iterate 2 refine ya ?_
  refine Ex.mo ?_;refine ye ?_;refine X.ret ?_;refine y6 ty46 ?_ ?_;all_goals (first | (rw [hE]; done) | (rw [hV]; rfl) | (unfold subE; rw [if_pos hc1]; done) | (unfold subV; rw [if_pos hc1]; done) | (unfold subV; rw [if_pos hc1]; rfl))
 have h12 := zeK hc1;have b1 := zB h12.1;have b2 := zB h12.2;have m1 := mulB b1.1 b1.2.1 b2.2.2.1 b2.2.2.2.1;have m2 := mulB b2.1 b2.2.1 b1.2.2.1 b1.2.2.2.1;have m3 := mulB b1.2.2.1 b1.2.2.2.1 b2.2.2.1 b2.2.2.2.1;have m4 := mulP b1.2.2.2.2.1 b2.2.2.2.2.1;apply yf;apply yb;iterate 16 refine ya ?_
 refine yq (zcP (a.N * b.D - b.N * a.D) (a.D * b.D) (by omega) (by omega) (by omega)) ?_;iterate 2 refine ya ?_
 refine Ex.mo ?_;refine ye ?_;refine X.ret ?_;refine y6 ty46 ?_ ?_;all_goals (first | (rw [hE]; done) | (rw [hV]; rfl) | (unfold subE; rw [if_pos hc1]; done) | (unfold subV; rw [if_pos hc1]; done) | (unfold subV; rw [if_pos hc1]; rfl))
theorem zem (a b c q : Int) (a0 : 0 <= a) (a1 : a <= 1099511627776) (b0 : 1 <= b) (b1 : b <= 1099511627776) (c0 : 0 <= c) (c1 : c <= 1099511627776) (d0 : 1 <= q) (d1 : q <= 1099511627776) : Fn Tryz.prog 134 [iv a, iv b, iv c, iv q] (.tup [tmA (tmsV a b c q), iv (tmsE a b c q)]) := by
 have hg := zeJ (n := a) (d := q) (by omega);have hh := zeJ (n := c) (d := b) (by omega);have qa := Int.ediv_nonneg a0 (Int.le_of_lt hg);have qb := Int.ediv_nonneg (show 0 <= b by omega) (Int.le_of_lt hh);have qc := Int.ediv_nonneg c0 (Int.le_of_lt hh);have qd := Int.ediv_nonneg (show 0 <= q by omega) (Int.le_of_lt hg);have ra := Int.ediv_le_self (gI a q) a0;have rb := Int.ediv_le_self (gI c b) (show 0 <= b by omega);have rc := Int.ediv_le_self (gI c b) c0;have rd := Int.ediv_le_self (gI a q) (show 0 <= q by omega);have hE : tmsE a b c q = if bigQ (a / gI a q) (b / gI c b) (c / gI c b) (q / gI a q) then 4 else tmkE (a / gI a q * (c / gI c b)) (b / gI c b * (q / gI a q)) := rfl
 have hV : tmsV a b c q = if bigQ (a / gI a q) (b / gI c b) (c / gI c b) (q / gI a q) then tmZ else tmkT (a / gI a q * (c / gI c b)) (b / gI c b * (q / gI a q)) := rfl
 rw [hE, hV];refine Fn.go Tryz.func134 Tryz.ntmps134 (fun g w d => ?_);apply yb;refine yH ?_;refine ya ?_;apply yj;iterate 2 refine ya ?_
 refine yq (zaE a q (by omega) (by omega) (by omega) (by omega)) ?_;iterate 2 refine ya ?_
 refine yq (zaE c b (by omega) (by omega) (by omega) (by omega)) ?_;refine yh ?_;apply yd;refine X.drawP [⟨0, 18, iv a, []⟩, ⟨1, 19, iv (gI a q), []⟩, ⟨2, 20, iv (a / gI a q), [1, 0]⟩, ⟨3, 21, iv q, []⟩, ⟨4, 22, iv (gI a q), []⟩, ⟨5, 23, iv (q / gI a q), [4, 3]⟩, ⟨6, 24, iv c, []⟩, ⟨7, 25, iv (gI c b), []⟩, ⟨8, 26, iv (c / gI c b), [7, 6]⟩, ⟨9, 27, iv b, []⟩, ⟨10, 28, iv (gI c b), []⟩, ⟨11, 29, iv (b / gI c b), [10, 9]⟩] [(12, [1, 0, 2]), (13, [4, 3, 2, 1, 0, 12, 5]), (14, [12, 7, 6, 5, 4, 3, 2, 1, 0, 13, 8]), (15, [13, 12, 10, 9, 8, 7, 6, 5, 4, 3, 2, 1, 0, 14, 11])] (fun j => match j with | 0 => ⟨[(0, iv (a)), (1, iv (b)), (2, iv (c)), (3, iv (q)), (8, .ptr 8 0 0 0), (10, iv (gI a q)), (11, iv (gI c b))], [(8, .box [iv 0, iv 0] 46)]⟩ | 1 => ⟨[(0, iv (a / gI a q)), (1, iv (b)), (2, iv (c)), (3, iv (q)), (8, .ptr 8 0 0 0), (10, iv (gI a q)), (11, iv (gI c b))], [(8, .box [iv 0, iv 0] 46)]⟩ | 2 => ⟨[(0, iv (a / gI a q)), (1, iv (b)), (2, iv (c)), (3, iv (q / gI a q)), (8, .ptr 8 0 0 0), (10, iv (gI a q)), (11, iv (gI c b))], [(8, .box [iv 0, iv 0] 46)]⟩ | 3 => ⟨[(0, iv (a / gI a q)), (1, iv (b)), (2, iv (c / gI c b)), (3, iv (q / gI a q)), (8, .ptr 8 0 0 0), (10, iv (gI a q)), (11, iv (gI c b))], [(8, .box [iv 0, iv 0] 46)]⟩ | _ => ⟨[(0, iv (a / gI a q)), (1, iv (b / gI c b)), (2, iv (c / gI c b)), (3, iv (q / gI a q)), (8, .ptr 8 0 0 0), (10, iv (gI a q)), (11, iv (gI c b))], [(8, .box [iv 0, iv 0] 46)]⟩) mo (by kernel_rfl) (zbf (yi)) (fun j hj => ?_) (fun j c hc β hβ => ?_) ?_
 ·rcases j with _ | _ | _ | _ | _ | j
  ·(iterate 12 refine ⟨.inr ⟨_, rfl, rfl, rfl, rfl, yM⟩, ?_⟩);exact True.intro
  ·(iterate 3 refine ⟨.inl rfl, ?_⟩);(iterate 9 refine ⟨.inr ⟨_, rfl, rfl, rfl, rfl, yM⟩, ?_⟩);exact True.intro
  ·(iterate 6 refine ⟨.inl rfl, ?_⟩);(iterate 6 refine ⟨.inr ⟨_, rfl, rfl, rfl, rfl, yM⟩, ?_⟩);exact True.intro
  ·(iterate 9 refine ⟨.inl rfl, ?_⟩);(iterate 3 refine ⟨.inr ⟨_, rfl, rfl, rfl, rfl, yM⟩, ?_⟩);exact True.intro
  ·(iterate 12 refine ⟨.inl rfl, ?_⟩);exact True.intro
  ·exact absurd (show j + 5 <= 4 from hj) (by omega)
 ·rcases j with _ | _ | _ | _ | j
  ·obtain rfl : (12, [1, 0, 2]) = c := by injection hc
   refine yo rfl (yK (st0 := ⟨[(18, iv a), (19, iv (gI a q)), (20, iv (a / gI a q)), (21, .ifb (β 3) (iv q)), (22, .ifb (β 4) (iv (gI a q))), (23, .ifb (β 5) (iv (q / gI a q))), (24, .ifb (β 6) (iv c)), (25, .ifb (β 7) (iv (gI c b))), (26, .ifb (β 8) (iv (c / gI c b))), (27, .ifb (β 9) (iv b)), (28, .ifb (β 10) (iv (gI c b))), (29, .ifb (β 11) (iv (b / gI c b))), (0, iv (a)), (1, iv (b)), (2, iv (c)), (3, iv (q)), (8, .ptr 8 0 0 0), (10, iv (gI a q)), (11, iv (gI c b))], [(8, .box [iv 0, iv 0] 46)]⟩) (yG) ?_);refine yz.imp (yr (Pur.stepA (zbu rfl)) rfl rfl) (yG)
  ·obtain rfl : (13, [4, 3, 2, 1, 0, 12, 5]) = c := by injection hc
   refine yo rfl (yK (st0 := ⟨[(18, iv a), (19, iv (gI a q)), (20, iv (a / gI a q)), (21, iv q), (22, iv (gI a q)), (23, iv (q / gI a q)), (24, .ifb (β 6) (iv c)), (25, .ifb (β 7) (iv (gI c b))), (26, .ifb (β 8) (iv (c / gI c b))), (27, .ifb (β 9) (iv b)), (28, .ifb (β 10) (iv (gI c b))), (29, .ifb (β 11) (iv (b / gI c b))), (0, iv (a / gI a q)), (1, iv (b)), (2, iv (c)), (3, iv (q)), (8, .ptr 8 0 0 0), (10, iv (gI a q)), (11, iv (gI c b))], [(8, .box [iv 0, iv 0] 46)]⟩) (yG) ?_);refine yz.imp (yr (Pur.stepA (zbu rfl)) rfl rfl) (yG)
  ·obtain rfl : (14, [12, 7, 6, 5, 4, 3, 2, 1, 0, 13, 8]) = c := by injection hc
   refine yo rfl (yK (st0 := ⟨[(18, iv a), (19, iv (gI a q)), (20, iv (a / gI a q)), (21, iv q), (22, iv (gI a q)), (23, iv (q / gI a q)), (24, iv c), (25, iv (gI c b)), (26, iv (c / gI c b)), (27, .ifb (β 9) (iv b)), (28, .ifb (β 10) (iv (gI c b))), (29, .ifb (β 11) (iv (b / gI c b))), (0, iv (a / gI a q)), (1, iv (b)), (2, iv (c)), (3, iv (q / gI a q)), (8, .ptr 8 0 0 0), (10, iv (gI a q)), (11, iv (gI c b))], [(8, .box [iv 0, iv 0] 46)]⟩) (yG) ?_);refine yz.imp (yr (Pur.stepA (zbu rfl)) rfl rfl) (yG)
  ·obtain rfl : (15, [13, 12, 10, 9, 8, 7, 6, 5, 4, 3, 2, 1, 0, 14, 11]) = c := by injection hc
   refine yo rfl (yK (st0 := ⟨[(18, iv a), (19, iv (gI a q)), (20, iv (a / gI a q)), (21, iv q), (22, iv (gI a q)), (23, iv (q / gI a q)), (24, iv c), (25, iv (gI c b)), (26, iv (c / gI c b)), (27, iv b), (28, iv (gI c b)), (29, iv (b / gI c b)), (0, iv (a / gI a q)), (1, iv (b)), (2, iv (c / gI c b)), (3, iv (q / gI a q)), (8, .ptr 8 0 0 0), (10, iv (gI a q)), (11, iv (gI c b))], [(8, .box [iv 0, iv 0] 46)]⟩) (yG) ?_);refine yz.imp (yr (Pur.stepA (zbu rfl)) rfl rfl) (yG)
  ·exact absurd hc (by simp)
 iterate 2 apply yd
 generalize a / gI a q = a2 at *
 generalize b / gI c b = b2 at *
 generalize c / gI c b = c2 at *
 generalize q / gI a q = d2 at *
 apply yc;iterate 2 refine ya ?_
 refine ExF.at 2 ?_;refine yI ?_;iterate 4 refine ExF.gi ?_
 iterate 2 refine yI ?_
 iterate 8 refine ExF.gi ?_
 refine yA ?_;refine ye ?_;refine yk rfl ?_ ?_<;>intro hc1
 ·have hq : bigQ a2 b2 c2 d2 := hc1;apply yb;refine ya ?_;refine Ex.mo ?_;refine ye ?_;refine X.ret ?_;refine y6 ty46 ?_ ?_;all_goals (first | (rw [if_neg hq]; done) | (rw [if_neg hq]; rfl) | (rw [if_pos hq]; done) | (rw [if_pos hq]; rfl))
 have hq : ¬ bigQ a2 b2 c2 d2 := fun h => by unfold bigQ at h; omega
 have z1 : 0 <= a2 * c2 := Int.mul_nonneg qa qc
 have z2 : a2 * c2 <= 1099511627776 := by
  by_cases h : 0 < a2
  ·exact zhg h (by decide) (fun h2 => hq (.inl ⟨h, h2⟩))
  ·rw [show a2 = 0 by omega]; simp
 have z3 : b2 * d2 <= 1048576 := by
  by_cases h : 0 < d2
  ·rw [Int.mul_comm]; exact zhg h (by decide) (fun h2 => hq (.inr ⟨h, h2⟩))
  ·rw [show d2 = 0 by omega]; simp
 have hm0 : -9223372036854775808 <= a2 * c2 := by omega
 have hm1 : a2 * c2 <= 9223372036854775807 := by omega
 have hm2 : b2 * d2 <= 9223372036854775807 := by omega
 have z4 : 0 <= b2 * d2 := Int.mul_nonneg qb qd;apply yf;apply yb;iterate 6 refine ya ?_
 refine yq (zcP _ _ hm1 hm2 hm0) ?_;iterate 2 refine ya ?_
 refine Ex.mo ?_;refine ye ?_;refine X.ret ?_;refine y6 ty46 ?_ ?_;all_goals (first | (rw [if_neg hq]; done) | (rw [if_neg hq]; rfl) | (rw [if_pos hq]; done) | (rw [if_pos hq]; rfl))
theorem zdI (a b : Tm) : Fn Tryz.prog 91 [tmA a, tmA b] (.tup [tmA (mulV a b), iv (mulE a b)]) := by
 refine Fn.go Tryz.func91 Tryz.ntmps91 (fun g w d => ?_);apply yb;iterate 2 refine yF ?_
 refine yH ?_;refine ye ?_;apply yd;apply yb;iterate 2 refine ya ?_
 refine y2 tmE [⟨_, _⟩, ⟨_, _⟩] ?_;refine Ex.imp (Imp.freeze (k := 9) rfl) ?_;refine yq (zaf [a, b] (by simp)) ?_;refine ya ?_;apply yj;refine yh ?_;refine yk rfl ?_ ?_<;>intro hc1
 ·have hE : mulE a b = yL [a, b] := by unfold mulE; rw [if_neg hc1]
  have hV : mulV a b = tmZ := by unfold mulV; rw [if_neg hc1]
  apply yb;iterate 2 refine ya ?_
  refine Ex.mo ?_;refine ye ?_;refine X.ret ?_;refine y6 ty46 ?_ ?_;all_goals (first | (rw [hE]; done) | (rw [hV]; rfl) | (unfold mulE; rw [if_pos hc1]; done) | (unfold mulV; rw [if_pos hc1]; done) | (unfold mulV; rw [if_pos hc1]; rfl))
 have h12 := zeK hc1;have b1 := zB h12.1;have b2 := zB h12.2;have m1 := mulB b1.1 b1.2.1 b2.2.2.1 b2.2.2.2.1;have m2 := mulB b2.1 b2.2.1 b1.2.2.1 b1.2.2.2.1;have m3 := mulB b1.2.2.1 b1.2.2.2.1 b2.2.2.1 b2.2.2.2.1;have m4 := mulP b1.2.2.2.2.1 b2.2.2.2.2.1;apply yf;apply yb;iterate 8 refine ya ?_
 refine yq (zem a.N a.D b.N b.D b1.1 b1.2.1 b1.2.2.2.2.1 (by omega) b2.1 b2.2.1 b2.2.2.2.2.1 (by omega)) ?_;iterate 2 refine ya ?_
 refine Ex.mo ?_;refine ye ?_;refine X.ret ?_;refine y6 ty46 ?_ ?_;all_goals (first | (rw [hE]; done) | (rw [hV]; rfl) | (unfold mulE; rw [if_pos hc1]; done) | (unfold mulV; rw [if_pos hc1]; done) | (unfold mulV; rw [if_pos hc1]; rfl))
theorem zcQ (a b : Tm) : Fn Tryz.prog 58 [tmA a, tmA b] (.tup [iv (cmpV a b), iv (yL [a, b])]) := by
 refine Fn.go Tryz.func58 Tryz.ntmps58 (fun g w d => ?_);apply yb;iterate 2 refine yF ?_
 refine yh ?_;apply yd;apply yb;iterate 2 refine ya ?_
 refine y2 tmE [⟨_, _⟩, ⟨_, _⟩] ?_;refine Ex.imp (Imp.freeze (k := 10) rfl) ?_;refine yq (zaf [a, b] (by simp)) ?_;refine ya ?_;apply yj;refine yh ?_;refine yk rfl ?_ ?_<;>intro hc1
 ·have hV : cmpV a b = 0 := by unfold cmpV; rw [if_neg hc1]
  apply yb;refine yn ?_;refine X.ret ?_;refine yu ?_ ?_;all_goals (first | (rw [hV]; done) | rfl | (rw [hc1]; done))
 have h12 := zeK hc1;have b1 := zB h12.1;have b2 := zB h12.2;have m1 := mulB b1.1 b1.2.1 b2.2.2.1 b2.2.2.2.1;have m2 := mulB b2.1 b2.2.1 b1.2.2.1 b1.2.2.2.1;have m3 := mulB b1.2.2.1 b1.2.2.2.1 b2.2.2.1 b2.2.2.2.1;have m4 := mulP b1.2.2.2.2.1 b2.2.2.2.2.1;apply yf;apply yd;apply yb;iterate 11 refine ya ?_
 refine ye ?_;apply X.block;apply yb;refine yn ?_;refine yk rfl ?_ ?_<;>intro hc2
 ·have hV : cmpV a b = -1 := by unfold cmpV; rw [if_pos hc1, if_pos (by omega)]
  apply yb;refine yh ?_;refine X.ret ?_;refine yu ?_ ?_;all_goals (first | (rw [hV]; done) | rfl | (rw [hc1]; done))
 apply yb;refine yn ?_;refine yk rfl ?_ ?_<;>intro hc3
 ·have hV : cmpV a b = 1 := by unfold cmpV; rw [if_pos hc1, if_neg (by omega), if_pos (by omega)]
  apply yb;refine yh ?_;refine X.ret ?_;refine yu ?_ ?_;all_goals (first | (rw [hV]; done) | rfl | (rw [hc1]; done))
 have hV : cmpV a b = 0 := by unfold cmpV; rw [if_pos hc1, if_neg (by omega), if_neg (by omega)]
 apply yf;apply yb;refine yh ?_;refine X.ret ?_;refine yu ?_ ?_;all_goals (first | (rw [hV]; done) | rfl | (rw [hc1]; done))
theorem zdJ (l : List Tm) (hl : l.length <= 4000000000) : Fn Tryz.prog 22 [tmsA l] (.tup [tmA (sumV l), iv (sumE l)]) := by
 refine Fn.go Tryz.func22 Tryz.ntmps22 (fun g w d => ?_);apply yb;refine yH ?_;refine ye ?_;apply yd;apply yb;refine ya ?_;refine yq (zaf l hl) ?_;refine ya ?_;apply yj;refine yh ?_;refine yk rfl ?_ ?_<;>intro hc1
 ·have hE : sumE l = yL l := by unfold sumE; rw [if_neg hc1]
  have hV : sumV l = tmZ := by unfold sumV; rw [if_neg hc1]
  apply yb;iterate 2 refine ya ?_
  refine Ex.mo ?_;refine ye ?_;refine X.ret ?_;refine y6 ty46 ?_ ?_;all_goals (first | (rw [hE]; done) | (rw [hV]; rfl) | (rw [hE]; rfl) | (rw [hV]; done))
 have hE : sumE l = (sumF ⟨0, 1⟩ l).2 := by unfold sumE; rw [if_pos hc1]
 have hV : sumV l = (sumF ⟨0, 1⟩ l).1 := by unfold sumV; rw [if_pos hc1]
 apply yf;apply yb;refine ya ?_;refine yH ?_;refine Ex.mo ?_;apply Ex.nil;apply yd;apply yb;refine yn ?_;apply X.block
 refine zh (ι := Nat × Tm) (fun (p : Nat × Tm) => [(2, .ptr 2 0 0 0), (5, .ptr 5 0 0 0), (16, tmsA l), (17, iv l.length), (18, iv (p.1 : Int))]) (fun (p : Nat × Tm) => [(2, .box [iv 0, iv 0] 46), (5, .box (tmE p.2) 46)]) (fun (p : Nat × Tm) => p.1 <= l.length /\ sumF ⟨0, 1⟩ l = sumF p.2 (l.drop p.1)) (fun (p : Nat × Tm) => l.length - p.1) (0, ⟨0, 1⟩) (fun p hk => ?_) (hJ := by
  exact ⟨by simp, rfl⟩)
 obtain ⟨k, s⟩ := p;obtain ⟨hk1, hk2⟩ := hk;dsimp only at *
 apply yb;refine ye ?_;apply yd;refine yk rfl ?_ ?_<;>intro hc2
 ·obtain ⟨t, ht⟩ : ∃ t, l[k]? = some t := ⟨_, lgg (by omega)⟩;have ht2 : l[(k : Int).toNat]? = some t := by simpa using ht
  apply yf;apply yd;apply X.block;apply yb;iterate 2 refine ya ?_
  refine yH ?_;refine Ex.mo ?_;apply yj;refine ya ?_;apply yj;iterate 2 refine ya ?_
  refine yq (zaR s t) ?_;iterate 3 refine ya ?_
  refine Ex.mo ?_;refine ya ?_;apply yj;refine yh ?_;refine yk rfl ?_ ?_<;>intro hc3
  ·have hS := zhf (s := s) ht;rw [if_neg hc3] at hS;rw [hk2, hS] at hE hV;apply yb;(iterate 2 refine ya ?_);refine Ex.mo ?_;refine ye ?_;refine X.ret ?_;refine y6 ty46 ?_ ?_;all_goals (first | (rw [hE]; done) | (rw [hV]; rfl) | (rw [hE]; rfl) | (rw [hV]; done))
  apply yf;apply yc;refine yh ?_
  refine yP ((k + 1, addV s t)) (hJ := by
   exact ⟨by dsimp only; omega, by rw [hk2, zhf ht, if_pos hc3]⟩)
 ·rw [hk2, List.drop_of_length_le (by omega)] at hE hV;apply X.exit;apply yb;refine ya ?_;refine Ex.mo ?_;refine ye ?_;refine X.ret ?_;refine y6 ty46 ?_ ?_;all_goals (first | (rw [hE]; done) | (rw [hV]; rfl) | (rw [hE]; rfl) | (rw [hV]; done))
end Go.Rse
namespace Go.Rse
open Go Go.Proofs
attribute [local irreducible] Pur yx yz Ex X Fn Imp LeV LeB FnO It yC
attribute [local irreducible] gI
end Go.Rse
namespace Go.Rse
open Go Go.Proofs
attribute [local irreducible] Pur yx yz Ex X Fn Imp LeV LeB FnO It yC
theorem znc {m : Mn} {w : Int} (h : 4 < w) : m.p w = 2 := by
 unfold Mn.p; rw [if_neg (by omega), if_neg (by omega), if_neg (by omega), if_neg (by omega)]
theorem zoZ {m : Mn} {v : Int} (h : ckMV m v = 0) : 1 <= v /\ v <= 8 := by
 unfold ckMV at h;split at h
 ·split at h
  ·assumption
  ·omega
 ·omega
theorem zo0 {m : Mn} {v w : Int} (h1 : 1 <= w) (hv : w < v) (hp : m.p w = 3) (hJ : ∀ u, w < u -> u < v -> m.p u ≠ 3) : m.ab v = w := by
 have hw : w <= 4 := by
  rcases Int.lt_or_le 4 w with h | h
  ·rw [znc h] at hp; omega
  ·exact h
 have hb : ∀ u, w < u -> decide (decide (m.p u = 3) = true /\ decide (u < v) = true) = false := fun u h => by
  by_cases h3 : m.p u = 3
  ·have : ¬ u < v := fun h4 => hJ u h h4 h3
   simp [this]
  ·simp [h3]
 have hbw : decide (decide (m.p w = 3) = true /\ decide (w < v) = true) = true := by simp [hp, hv]
 unfold Mn.ab perfL;rw [List.find?_filter];have : w = 1 \/ w = 2 \/ w = 3 \/ w = 4 := by omega
 rcases this with rfl | rfl | rfl | rfl
 ·simp only [List.find?_cons, hb 4 (by omega), hb 3 (by omega), hb 2 (by omega), hbw]; rfl
 ·simp only [List.find?_cons, hb 4 (by omega), hb 3 (by omega), hbw]; rfl
 ·simp only [List.find?_cons, hb 4 (by omega), hbw]; rfl
 ·simp only [List.find?_cons, hbw]; rfl
end Go.Rse
