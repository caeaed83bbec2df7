/-
  Walks: lists of times searched and compared; a list of items cloned; the perfect values collected.
  Walks: sums and products of times by definition (tactusref01).
  Walks: quotients of times, of the program and by definition.
  Walks: faults of items, the unit of a level, heads.
  Walks: the boundaries of a level, its segments without counts.
  Walks: the segments of a level without their counts.
  Walks: the count of a segment, the segments of a level.
-/
import Derived.Test.YtfiiobachmglpaaGreatDoorFIteA
import Derived.Test.YtfiiobachmglpaaGreatDoorFJRef1
import Derived.Test.YtfiiobachmglpaaGreatDoorFMens2
import Derived.Test.YtfiiobachmglpaaGreatDoorFLevA
import Derived.Test.YtfiiobachmglpaaGreatDoorFLogB
set_option linter.unusedSimpArgs false
set_option linter.unusedVariables false
namespace Go.Rse
open Go Go.Proofs
attribute [local irreducible] Pur yK yM Ex X Fn Imp LeV LeB FnO It yW
def tfx (t : Tm) (l : List Tm) : Int := if l.findIdx (fun u => decide (t = u)) < l.length then (l.findIdx (fun u => decide (t = u)) : Int) else -1
theorem zoB {t : Tm} {l : List Tm} {k : Nat} {v : Tm} (hv : l[k]? = some v) (hp : t = v) (hJ : ∀ i u, i < k -> l[i]? = some u -> ¬ t = u) : tfx t l = k := by
 have hk : k < l.length := (List.getElem?_eq_some_iff.1 hv).1;have hg : l[k] = v := (List.getElem?_eq_some_iff.1 hv).2;have : l.findIdx (fun u => decide (t = u)) = k := (List.findIdx_eq hk).2 ⟨by rw [hg]; simpa using hp, fun j hj => by simpa using hJ j _ hj (lgg (by omega))⟩;unfold tfx; rw [this, if_pos hk]
theorem znr {t : Tm} {l : List Tm} (hJ : ∀ i u, i < l.length -> l[i]? = some u -> ¬ t = u) : tfx t l = -1 := by
 have : l.findIdx (fun u => decide (t = u)) = l.length := List.findIdx_eq_length.2 fun x hx => by
  obtain ⟨i, hi⟩ := List.mem_iff_getElem?.1 hx;simpa using hJ i x (List.getElem?_eq_some_iff.1 hi).1 hi
 unfold tfx; rw [if_neg (by omega)]
theorem zoC (t : Tm) (l : List Tm) : decide (0 <= tfx t l) = decide (t ∈ l) := by
 by_cases h : t ∈ l
 ·have : l.findIdx (fun u => decide (t = u)) < l.length := List.findIdx_lt_length_of_exists ⟨t, h, by simp⟩;simp only [tfx, if_pos this, h]; simp
 ·have h2 : l.findIdx (fun u => decide (t = u)) = l.length := List.findIdx_eq_length.2 fun u hu => decide_eq_false fun e => h (e ▸ hu)
  have : ¬ l.findIdx (fun u => decide (t = u)) < l.length := by omega
  simp only [tfx, if_neg this, h]; simp
theorem zcb {α : Type} {l : List α} {j : Nat} {x : α} (h : l[j]? = some x) : l.take j ++ [x] = l.take (j + 1) := by
 rw [List.take_add_one, h]; rfl
theorem zit (m : Mn) : (perfL m).length <= 4 := by
 unfold perfL;refine Nat.le_trans (List.length_filter_le _ _) ?_;simp
attribute [local irreducible] tfx perfL
theorem zbf (l : List Tm) (t : Tm) (hl : l.length <= 4000000000) : Fn Tryz.prog 192 [tmsA l, tmA t] (iv (tfx t l)) := by
 refine Fn.go Tryz.func192 Tryz.ntmps192 (fun g w d => ?_);apply yb;refine yH ?_;refine ye ?_;apply yd;apply yb;refine yp ?_;apply X.block
 refine y9 (ι := Nat) (fun (k : Nat) => [(0, tmsA l), (3, .ptr 3 0 0 0), (7, iv l.length), (8, iv (k : Int))]) (fun (k : Nat) => [(3, .box (tmE t) 60)]) (fun (k : Nat) => k <= l.length /\ ∀ i u, i < k -> l[i]? = some u -> ¬ t = u) (fun (k : Nat) => l.length - k) 0 (fun k hk => ?_) (hJ := by
  exact ⟨by omega, fun i u h => absurd h (Nat.not_lt_zero i)⟩)
 obtain ⟨hk1, hk2⟩ := hk;apply yb;refine ye ?_;apply yd;refine yk rfl ?_ ?_<;>intro hc1
 ·obtain ⟨v, hv⟩ : ∃ v, l[k]? = some v := ⟨_, lgg (by omega)⟩;have hv2 : l[(k : Int).toNat]? = some v := by simpa using hv
  apply yf;apply yd;apply X.block;apply yb;refine yh ?_;apply yd;refine zi [11,12,13,14,15,16] [0,0,0,6,14,31] mo ?_;iterate 6 refine yj ?_
  refine yR ?_;apply Ex.nil;refine yk rfl ?_ ?_<;>intro hc2
  ·apply yb;refine yh ?_;refine X.ret ?_;refine ym ?_;all_goals (congr 1; exact (zoB hv hc2 hk2).symm)
  apply yf;apply yc;refine yh ?_
  refine yL (k + 1) (hJ := by
   refine ⟨by omega, fun i u hi hu => ?_⟩;rcases Nat.lt_succ_iff_lt_or_eq.1 hi with h | h
   ·exact hk2 i u h hu
   ·subst h; rw [hv] at hu; injection hu with hu; subst hu; exact hc2)
 ·apply X.exit;apply yb;refine ye ?_;refine X.ret ?_;refine ym ?_;all_goals (congr 1; exact (znr (fun i u hi => hk2 i u (by omega))).symm)
theorem zK (l : List Tm) (t : Tm) (hl : l.length <= 4000000000) : Fn Tryz.prog 110 [tmsA l, tmA t] (.bool (decide (t ∈ l))) := by
 refine Fn.go Tryz.func110 Tryz.ntmps110 (fun g w d => ?_);apply yb;refine yH ?_;refine ya ?_;apply yn;iterate 2 refine ya ?_
 refine yr (zbf l t hl) ?_;refine yh ?_;refine X.ret ?_;refine ym ?_;all_goals (congr 1; exact zoC t l)
theorem zbg (a b : List Tm) (hl : a.length <= 4000000000) : Fn Tryz.prog 100 [tmsA a, tmsA b] (.bool (decide (a = b))) := by
 refine Fn.go Tryz.func100 Tryz.ntmps100 (fun g w d => ?_);apply yb;refine ye ?_;apply yd;apply yb;refine y4 ?_;refine yk rfl ?_ ?_<;>intro hc1
 ·have hD : decide (a = b) = false := by rw [decide_eq_false_iff_not]; intro h; subst h; exact hc1 rfl
  apply yb;refine ye ?_;refine X.ret ?_;refine ym ?_;all_goals (rw [hD])
 have hlen : a.length = b.length := by omega
 apply yf;apply yd;apply yb;refine yp ?_;apply X.block
 refine y9 (ι := Nat) (fun (k : Nat) => [(0, tmsA a), (1, tmsA b), (12, iv a.length), (13, iv (k : Int))]) (fun (k : Nat) => []) (fun (k : Nat) => k <= a.length /\ a.take k = b.take k) (fun (k : Nat) => a.length - k) 0 (fun k hk => ?_) (hJ := by
  exact ⟨by omega, by simp⟩)
 obtain ⟨hk1, hk2⟩ := hk;apply yb;refine ye ?_;apply yd;refine yk rfl ?_ ?_<;>intro hc2
 ·obtain ⟨x, hx⟩ : ∃ x, a[k]? = some x := ⟨_, lgg (by omega)⟩;have hx2 : a[(k : Int).toNat]? = some x := by simpa using hx
  obtain ⟨y, hy⟩ : ∃ y, b[k]? = some y := ⟨_, lgg (by omega)⟩;have hy2 : b[(k : Int).toNat]? = some y := by simpa using hy
  apply yf;apply yd;apply X.block;apply yb;refine yh ?_;apply yd;refine zi [16,17,18,19,20,21,22,23,24] [0,0,3,7,0,0,48,112,255] mo ?_;iterate 9 refine yj ?_
  refine yR ?_;apply Ex.nil;refine yk rfl ?_ ?_<;>intro hc3
  ·have hD : decide (a = b) = false := by rw [decide_eq_false_iff_not]; intro h; subst h; rw [hx] at hy; injection hy with hy; exact hc3 hy
   apply yb;refine ye ?_;refine X.ret ?_;refine ym ?_;all_goals (rw [hD])
  apply yf;apply yc;refine yh ?_
  refine yL (k + 1) (hJ := by
   exact ⟨by omega, by rw [← zcb hx, ← zcb hy, hk2, hc3]⟩)
 ·have hD : decide (a = b) = true := by
   have h1 : k = a.length := by omega
   rw [decide_eq_true_iff]; subst h1; rw [List.take_length, hlen, List.take_length] at hk2; exact hk2
  apply X.exit;apply yb;refine ye ?_;refine X.ret ?_;refine ym ?_;all_goals (rw [hD])
theorem zT (l : List Ite) (hl : l.length <= 4000000) : FnO Tryz.prog 72 [itsA l] [] [] (.own 5) [(5, .row itE l 62 12)] := by
 refine FnO.intro (ts := [(0, itsA l)]) (rv := [.tmp 2]) (n := 8) (cs := []) (by kernel_rfl) Tryz.func72 rfl Tryz.ntmps72 rfl rfl (by simp) rfl rfl rfl rfl (fun g w d vs => ?_);apply yb;refine ye ?_;apply yd;apply yb;refine ya ?_;refine Ex.eqNil rfl sl24 rfl (fun b hb => ?_);apply Ex.nil;refine yk rfl ?_ ?_<;>intro hc1
 ·have hl0 := hb hc1;subst hl0;subst hc1;apply yb;refine ye ?_;refine X.ret ?_;refine zf1 (yZ itE 62 12 2 5 rfl rfl) ?_;refine zlm.mk (ts := [(2, .own 5)]) (.inr rfl) (yl) (.one (.tmp rfl (LeV.eq rfl)))
 apply yf;apply yb;refine yO itE [] ?_;refine ya ?_;refine yi ?_;refine ye ?_;refine X.ret ?_;refine zlm.mk (ts := [(2, .own 5)]) (.inr rfl) (yl) (.one (.tmp rfl (LeV.eq rfl)))
theorem zcc (m : Mn) : Fn Tryz.prog 157 [.nils, .fn 158 [.ept (fun _ : Unit => mnE m) () 0]] (yg (perfL m)) := by
 have hpl := zit m;refine Fn.go Tryz.func157 Tryz.ntmps157 (fun g w d => ?_);apply yb;refine zeH ?_;refine ye ?_;iterate 2 apply yd
 refine y3 (zb8 intE 3 1 2 39 27 rfl rfl) ?_;apply yc;refine ye ?_;apply X.block;have ht0 : [] = (perfL m).take 0 := by simp
 have htl : (perfL m).take (zeL m).length = perfL m := by unfold zeL; rw [List.length_map, List.take_length]
 refine X.range (sl := [2]) (fun j => ([.ptr 2 0 0 0], [(2, .box [.own 39] 27), (39, .row intE ((perfL m).take j) 3 1)])) (fun j => True) 900001 900002 rfl rfl (by decide) (fun j zs hj => by obtain ⟨i, _, rfl⟩ := zbX hj; rfl) (zcR m) trivial rfl rfl (by decide) (Nat.zero_le _) (by simp) (fun j zs hj => by obtain ⟨i, _, rfl⟩ := zbX hj; rfl) (fun _ => rfl) rfl rfl (fun l o us => yl) (trivial) (fun j zs hj hJ l ready busy rb vs g w hb hyB => ?_) (fun hJ => ?_)
 ·have hZ1 := zbX hj;obtain ⟨i, hi, rfl⟩ := hZ1;have hst := zcb hi;have hlt : ((perfL m).take j).length <= 1000 := by simp; omega
  apply yc;refine ye ?_;refine ⟨rfl, rfl, ?_⟩;apply X.block;apply yc;iterate 2 refine ya ?_
  refine yO intE [_] ?_;iterate 2 refine yi ?_
  apply Ex.nil;refine ⟨[.ptr 2 0 0 0], [(2, .box [.own 39] 27), (39, .row intE ((perfL m).take (j + 1)) 3 1)], yl, rfl, trivial⟩
 apply yb;refine yh ?_;refine X.ret ?_;refine yu (Imp.freeze (k := 39) rfl) ?_;refine ym ?_;all_goals (first | exact congrArg yg htl | rfl)
theorem zd5 (m : Mn) : Fn Tryz.prog 89 [.fn 158 [.ept (fun _ : Unit => mnE m) () 0]] (yg (perfL m)) := by
 refine Fn.go Tryz.func89 Tryz.ntmps89 (fun g w d => ?_);apply yb;refine ya ?_;apply yn;refine ya ?_;refine yr (zcc m) ?_;refine ye ?_;refine X.ret ?_;refine ym ?_;all_goals (first | rfl | (simp_all; done))
theorem zeI (m : Mn) : Fn Tryz.prog 34 [mnA m] (.tup [yg (if ckM m = 0 then perfL m else []), iv (ckM m)]) := by
 refine Fn.go Tryz.func34 Tryz.ntmps34 (fun g w d => ?_);apply yb;refine yH ?_;refine yh ?_;apply yd;apply yb;refine ya ?_;refine yr (zdf m) ?_;refine ya ?_;apply yn;refine yh ?_;refine yk rfl ?_ ?_<;>intro hc1
 ·apply yb;refine yp ?_;refine X.ret ?_;refine yu (yl (ts := [(2, yg []), (3, iv (ckM m))]) (hs := [])) ?_;refine yz ?_ ?_;all_goals (first | (rw [if_neg hc1]; done) | rfl)
 apply yf;apply yb;refine ya ?_;refine yr (zea m) ?_;refine yr (zd5 m) ?_;refine yh ?_;refine X.ret ?_;refine yz ?_ ?_;all_goals (first | (rw [if_pos hc1]; done) | exact congrArg (AV.int .i64) hc1.symm)
end Go.Rse
namespace Go.Rse
open Go Go.Proofs
attribute [local irreducible] Pur yK yM Ex X Fn Imp LeV LeB FnO It yW
def rtsE (n q m c : Int) : Int := if (0 < n / gI n c /\ 1099511627776 / (n / gI n c) < m / gI m q) \/ 1048576 < q / gI m q * (c / gI n c) then 4 else 0
def rtsV (n q m c : Int) : Tm := if rtsE n q m c = 0 then ⟨n / gI n c * (m / gI m q), q / gI m q * (c / gI n c)⟩ else tmZ
def rmE (a b : Tm) : Int := if yP [a, b] = 0 then rtsE a.N a.D b.N b.D else yP [a, b]
def rmV (a b : Tm) : Tm := if yP [a, b] = 0 then rtsV a.N a.D b.N b.D else tmZ
attribute [local irreducible] gI
theorem zk (a b : Tm) : Fn Tryz.prog 207 [tmA a, tmA b] (.tup [tmA (addV a b), iv (addE a b)]) := by
 refine Fn.go Tryz.func207 Tryz.ntmps207 (fun g w d => ?_);apply yb;iterate 2 refine yH ?_
 refine yJ ?_;refine ya ?_;apply yn;iterate 2 refine ya ?_
 refine yr (zL a b) ?_;refine ye ?_;apply yd;apply yb;refine yh ?_;refine yk rfl ?_ ?_<;>intro hc1
 ·have hE : addE a b = yP [a, b] := by unfold addE; rw [if_neg hc1]
  have hV : addV a b = tmZ := by unfold addV; rw [if_neg hc1]
  apply yb;iterate 2 refine ya ?_
  refine yi ?_;refine ye ?_;refine X.ret ?_;refine yF ty60 ?_ ?_;all_goals (first | (rw [hE]; done) | (rw [hV]; rfl) | (rw [hE]; rfl) | (rw [hV]; done))
 have h12 := zbG hc1;have b1 := z8 h12.1;have b2 := z8 h12.2;have m1 := mulB b1.1 b1.2.1 b2.2.2.1 b2.2.2.2.1;have m2 := mulB b2.1 b2.2.1 b1.2.2.1 b1.2.2.2.1;have m3 := mulB b1.2.2.1 b1.2.2.2.1 b2.2.2.1 b2.2.2.2.1;have m4 := mulP b1.2.2.2.2.1 b2.2.2.2.2.1;have hE : addE a b = tmkE (a.N * b.D + b.N * a.D) (a.D * b.D) := by unfold addE; rw [if_pos hc1]
 have hV : addV a b = tmkT (a.N * b.D + b.N * a.D) (a.D * b.D) := by unfold addV; rw [if_pos hc1]
 apply yf;apply yb;iterate 16 refine ya ?_
 refine yr (zbo (a.N * b.D + b.N * a.D) (a.D * b.D) (by omega) (by omega) (by omega) (by omega)) ?_;iterate 2 refine ya ?_
 refine yi ?_;refine ye ?_;refine X.ret ?_;refine yF ty60 ?_ ?_;all_goals (first | (rw [hE]; done) | (rw [hV]; rfl) | (rw [hE]; rfl) | (rw [hV]; done))
theorem zbL (n q m c : Int) (n0 : 0 <= n) (n1 : n <= 1099511627776) (q0 : 1 <= q) (q1 : q <= 1048576) (m0 : 0 <= m) (m1 : m <= 1099511627776) (c0 : 1 <= c) (c1 : c <= 1099511627776) : Fn Tryz.prog 226 [iv n, iv q, iv m, iv c] (.tup [tmA (rtsV n q m c), iv (rtsE n q m c)]) := by
 have hg := zb1 (n := n) (d := c) (by omega);have hh := zb1 (n := m) (d := q) (by omega);have n2 := Int.ediv_nonneg n0 (Int.le_of_lt hg);have n3 := Int.ediv_le_self (gI n c) n0;have c2 := Int.ediv_nonneg (show 0 <= c by omega) (Int.le_of_lt hg);have c3 := Int.ediv_le_self (gI n c) (show 0 <= c by omega);have m2 := Int.ediv_nonneg m0 (Int.le_of_lt hh);have m3 := Int.ediv_le_self (gI m q) m0;have q2 := Int.ediv_nonneg (show 0 <= q by omega) (Int.le_of_lt hh);have q3 := Int.ediv_le_self (gI m q) (show 0 <= q by omega);have mB := mulB q2 (show q / gI m q <= 1048576 by omega) c2 (show c / gI n c <= 1099511627776 by omega);refine Fn.go Tryz.func226 Tryz.ntmps226 (fun g w d => ?_);apply yb;refine yJ ?_;refine ya ?_;apply yn;iterate 2 refine ya ?_
 refine yr (zaj n c (by omega) (by omega) (by omega) (by omega)) ?_;iterate 2 refine ya ?_
 refine yr (zaj m q (by omega) (by omega) (by omega) (by omega)) ?_;iterate 2 refine ya ?_
 apply yn;iterate 4 refine ya ?_
 apply yn;iterate 4 refine ya ?_
 apply yn;iterate 4 refine ya ?_
 apply yn;refine yX ?_;apply yd;apply yb;iterate 2 refine ya ?_
 refine ExF.at 2 ?_;refine yC ?_;iterate 4 refine ExF.gi ?_
 iterate 2 refine yC ?_
 iterate 4 refine ExF.gi ?_
 refine yA ?_;refine ye ?_;refine yk rfl ?_ ?_<;>intro hc1
 ·have hE : rtsE n q m c = 4 := by unfold rtsE; rw [if_pos hc1]
  have hV : rtsV n q m c = tmZ := by unfold rtsV; rw [if_neg (by omega)]
  apply yb;refine ya ?_;refine yi ?_;refine ye ?_;refine X.ret ?_;refine yF ty60 ?_ ?_;all_goals (first | (rw [hE]; done) | (rw [hV]; rfl) | (rw [hE]; rfl) | (rw [hV]; done))
 have hE : rtsE n q m c = 0 := by unfold rtsE; rw [if_neg (fun h => by omega)]
 have hV : rtsV n q m c = ⟨n / gI n c * (m / gI m q), q / gI m q * (c / gI n c)⟩ := by unfold rtsV; rw [if_pos hE]
 have hnm : 0 <= n / gI n c * (m / gI m q) /\ n / gI n c * (m / gI m q) <= 1099511627776 := by
  refine ⟨Int.mul_nonneg n2 m2, ?_⟩;by_cases hz : 0 < n / gI n c
  ·exact zei hz (by decide) (by omega)
  ·rw [show n / gI n c = 0 by omega, Int.zero_mul]; decide
 apply yf;apply yb;iterate 7 refine ya ?_
 refine yi ?_;refine ye ?_;refine X.ret ?_;refine yF ty60 ?_ ?_;all_goals (first | (rw [hE]; done) | (rw [hV]; rfl) | (rw [hE]; rfl) | (rw [hV]; done))
theorem zfC (a b : Tm) : Fn Tryz.prog 147 [tmA a, tmA b] (.tup [tmA (rmV a b), iv (rmE a b)]) := by
 refine Fn.go Tryz.func147 Tryz.ntmps147 (fun g w d => ?_);apply yb;iterate 2 refine yH ?_
 refine yJ ?_;refine ya ?_;apply yn;iterate 2 refine ya ?_
 refine yr (zL a b) ?_;refine ye ?_;apply yd;apply yb;refine yh ?_;refine yk rfl ?_ ?_<;>intro hc1
 ·have hE : rmE a b = yP [a, b] := by unfold rmE; rw [if_neg hc1]
  have hV : rmV a b = tmZ := by unfold rmV; rw [if_neg hc1]
  apply yb;iterate 2 refine ya ?_
  refine yi ?_;refine ye ?_;refine X.ret ?_;refine yF ty60 ?_ ?_;all_goals (first | (rw [hE]; done) | (rw [hV]; rfl) | (rw [hE]; rfl) | (rw [hV]; done))
 have h12 := zbG hc1;have b1 := z8 h12.1;have b2 := z8 h12.2;have hE : rmE a b = rtsE a.N a.D b.N b.D := by unfold rmE; rw [if_pos hc1]
 have hV : rmV a b = rtsV a.N a.D b.N b.D := by unfold rmV; rw [if_pos hc1]
 apply yf;apply yb;iterate 8 refine ya ?_
 refine yr (zbL a.N a.D b.N b.D (by omega) (by omega) (by omega) (by omega) (by omega) (by omega) (by omega) (by omega)) ?_;iterate 2 refine ya ?_
 refine yi ?_;refine ye ?_;refine X.ret ?_;refine yF ty60 ?_ ?_;all_goals (first | (rw [hE]; done) | (rw [hV]; rfl) | (rw [hE]; rfl) | (rw [hV]; done))
end Go.Rse
namespace Go.Rse
open Go Go.Proofs
theorem zqM {a b c d : Int} (h0 : 0 <= a) (h1 : 1 <= b) (h2 : 0 <= c) (h3 : 1 <= d) (g1 : gI a b = 1) (g2 : gI c d = 1) : rtsE a b c d = tmsE a b c d /\ rtsV a b c d = tmsV a b c d := by
 have hg := zoh h0 h1 h2 h3 g1 g2
 have p : ∀ x y : Int, 1 <= y -> 1 <= y / gI x y := fun x y hy => by
  have hg := zb1 (n := x) (d := y) (by omega);have gy : gI x y ∣ y := Int.ofNat_dvd_left.2 (Nat.gcd_dvd_right _ _);have ey := Int.mul_ediv_cancel' gy;apply Classical.byContradiction;intro hn;have := Int.mul_le_mul_of_nonneg_left (show y / gI x y <= 0 by omega) (Int.le_of_lt hg);omega
 have pb := p c b h1;have pd := p a d h3;have pa : 0 <= a / gI a d := Int.ediv_nonneg h0 (zpO _ _);have pc : 0 <= c / gI c b := Int.ediv_nonneg h2 (zpO _ _);unfold rtsV rtsE tmsE tmsV;generalize a / gI a d = A at *
 generalize c / gI c b = Y at *
 generalize b / gI c b = B at *
 generalize d / gI a d = E at *
 have hn : 0 <= A * Y := Int.mul_nonneg pa pc;have hd : 1 <= B * E := mulP pb pd
 have q1 : (0 < E /\ 1048576 / E < B) ↔ 1048576 < B * E := by
  constructor
  ·rintro ⟨x, y⟩
   apply Classical.byContradiction;intro hh;have := (Int.le_ediv_iff_mul_le x (a := B) (b := 1048576)).2 (by omega);omega
  ·intro hh;refine ⟨by omega, Int.ediv_lt_of_lt_mul (by omega) hh⟩
 have hc : bigQ A B Y E ↔ ((0 < A /\ 1099511627776 / A < Y) \/ 1048576 < B * E) := by unfold bigQ; rw [q1]
 by_cases hb : (0 < A /\ 1099511627776 / A < Y) \/ 1048576 < B * E
 ·rw [if_pos hb, if_pos (hc.2 hb), if_pos (hc.2 hb), if_neg (by decide)];exact ⟨rfl, rfl⟩
 ·have hb1 : ¬ bigQ A B Y E := fun h => hb (hc.1 h)
  have hA : A * Y <= 1099511627776 := by
   by_cases hz : 0 < A
   ·exact zei hz (by decide) (fun h => hb (.inl ⟨hz, h⟩))
   ·rw [show A = 0 by omega, Int.zero_mul]; decide
  obtain ⟨k1, k2, k3⟩ := zk5 hg hn hd hA (by omega);rw [if_neg hb, if_neg hb1, if_neg hb1, if_pos rfl];exact ⟨k1.symm, k2.symm⟩
attribute [local irreducible] Pur yK yM Ex X Fn Imp LeV LeB FnO It yW
attribute [local irreducible] gI
theorem zkO (a b : Tm) : Fn Tryz.prog 167 [tmA a, tmA b] (.tup [tmA (divV a b), iv (divE a b)]) := by
 refine Fn.go Tryz.func167 Tryz.ntmps167 (fun g w d => ?_);apply yb;iterate 2 refine yH ?_
 refine yJ ?_;refine ye ?_;apply yd;apply yb;iterate 2 refine ya ?_
 refine yO tmE [⟨_, _⟩, ⟨_, _⟩] ?_;refine ze (Imp.freeze (k := 9) rfl) ?_;refine yr (zaB [a, b] (by simp)) ?_;refine ya ?_;apply yn;refine yh ?_;refine yk rfl ?_ ?_<;>intro hc1
 ·have hE : divE a b = yP [a, b] := by unfold divE; rw [if_neg hc1]
  have hV : divV a b = tmZ := by unfold divV; rw [if_neg hc1]
  apply yb;iterate 2 refine ya ?_
  refine yi ?_;refine ye ?_;refine X.ret ?_;refine yF ty60 ?_ ?_;all_goals (first | (rw [hE]; done) | (rw [hV]; rfl) | (rw [hE]; rfl) | (rw [hV]; done))
 have h12 := zbG hc1;have b1 := z8 h12.1;have b2 := z8 h12.2;apply yf;apply yd;apply yb;refine yp ?_;refine yk rfl ?_ ?_<;>intro hc2
 ·have hE : divE a b = 5 := by unfold divE; rw [if_pos hc1, if_pos hc2]
  have hV : divV a b = tmZ := by unfold divV; rw [if_pos hc1, if_pos hc2]
  apply yb;refine ya ?_;refine yi ?_;refine ye ?_;refine X.ret ?_;refine yF ty60 ?_ ?_;all_goals (first | (rw [hE]; done) | (rw [hV]; rfl) | (rw [hE]; rfl) | (rw [hV]; done))
 have hE : divE a b = tmsE a.N a.D b.D b.N := by unfold divE; rw [if_pos hc1, if_neg hc2]
 have hV : divV a b = tmsV a.N a.D b.D b.N := by unfold divV; rw [if_pos hc1, if_neg hc2]
 apply yf;apply yb;iterate 8 refine ya ?_
 refine yr (zfn a.N a.D b.D b.N b1.1 b1.2.1 b1.2.2.2.2.1 (by omega) (by omega) (by omega) (by omega) (by omega)) ?_;iterate 2 refine ya ?_
 refine yi ?_;refine ye ?_;refine X.ret ?_;refine yF ty60 ?_ ?_;all_goals (first | (rw [hE]; done) | (rw [hV]; rfl) | (rw [hE]; rfl) | (rw [hV]; done))
theorem zaq (a b : Tm) : Fn Tryz.prog 209 [tmA a, tmA b] (.tup [tmA (divV a b), iv (divE a b)]) := by
 refine Fn.go Tryz.func209 Tryz.ntmps209 (fun g w d => ?_);apply yb;iterate 2 refine yH ?_
 refine yJ ?_;refine ya ?_;apply yn;iterate 2 refine ya ?_
 refine yr (zL a b) ?_;refine ye ?_;apply yd;apply yb;refine yh ?_;refine yk rfl ?_ ?_<;>intro hc1
 ·have hE : divE a b = yP [a, b] := by unfold divE; rw [if_neg hc1]
  have hV : divV a b = tmZ := by unfold divV; rw [if_neg hc1]
  apply yb;iterate 2 refine ya ?_
  refine yi ?_;refine ye ?_;refine X.ret ?_;refine yF ty60 ?_ ?_;all_goals (first | (rw [hE]; done) | (rw [hV]; rfl) | (rw [hE]; rfl) | (rw [hV]; done))
 have h12 := zbG hc1;have b1 := z8 h12.1;have b2 := z8 h12.2;apply yf;apply yd;apply yb;refine yp ?_;refine yk rfl ?_ ?_<;>intro hc2
 ·have hE : divE a b = 5 := by unfold divE; rw [if_pos hc1, if_pos hc2]
  have hV : divV a b = tmZ := by unfold divV; rw [if_pos hc1, if_pos hc2]
  apply yb;refine ya ?_;refine yi ?_;refine ye ?_;refine X.ret ?_;refine yF ty60 ?_ ?_;all_goals (first | (rw [hE]; done) | (rw [hV]; rfl) | (rw [hE]; rfl) | (rw [hV]; done))
 have hE : divE a b = tmsE a.N a.D b.D b.N := by unfold divE; rw [if_pos hc1, if_neg hc2]
 have hV : divV a b = tmsV a.N a.D b.D b.N := by unfold divV; rw [if_pos hc1, if_neg hc2]
 have hr := zqM (a := a.N) (b := a.D) (c := b.D) (d := b.N) b1.1 b1.2.2.2.2.1 (by omega) (by omega) b1.2.2.2.2.2 (by have h9 := b2.2.2.2.2.2; unfold gI at *; rw [Nat.gcd_comm]; exact h9);rw [← hr.1] at hE;rw [← hr.2] at hV;apply yf;apply yb;iterate 8 refine ya ?_
 refine yr (zbL a.N a.D b.D b.N b1.1 b1.2.1 b1.2.2.2.2.1 (by omega) (by omega) (by omega) (by omega) (by omega)) ?_;iterate 2 refine ya ?_
 refine yi ?_;refine ye ?_;refine X.ret ?_;refine yF ty60 ?_ ?_;all_goals (first | (rw [hE]; done) | (rw [hV]; rfl) | (rw [hE]; rfl) | (rw [hV]; done))
end Go.Rse
namespace Go.Rse
open Go Go.Proofs
attribute [local irreducible] Pur yK yM Ex X Fn Imp LeV LeB FnO It yW
theorem zf6 (m : Mn) (k : Int) : k ∈ perfL m ↔ (1 <= k /\ k <= 4 /\ m.p k = 3) := by
 unfold perfL;simp only [List.mem_filter, List.mem_cons, List.not_mem_nil, or_false, decide_eq_true_eq];constructor
 ·rintro ⟨h1, h2⟩; exact ⟨by omega, by omega, h2⟩
 ·rintro ⟨h1, h2, h3⟩; exact ⟨by omega, h3⟩
theorem zj4 (x : Ite) {j : Nat} {t : Tm} (h : (itT x)[j]? = some t) : (([iv x.Dur.N, iv x.Dur.D, iv x.Before.N, iv x.Before.D, iv x.After.N, iv x.After.D] : List AV).drop ((j : Int).toNat * 2)).take 2 = tmE t := by
 have hj : j < 3 := (List.getElem?_eq_some_iff.1 h).1;have : j = 0 \/ j = 1 \/ j = 2 := by omega
 rcases this with rfl | rfl | rfl <;> (injection h with h; subst h; rfl)
attribute [local irreducible] ckT yP perfL
set_option maxHeartbeats 1000000 in
theorem zeJ (l : List Ite) (hl : l.length <= 4000000) : Fn Tryz.prog 70 [itsA l] (.tup [iv (ckIE l), iv (ckIX l 0)]) := by
 refine Fn.go Tryz.func70 Tryz.ntmps70 (fun g w d => ?_);apply yb;refine yh ?_;apply yd;apply yb;refine yp ?_;apply X.block
 refine y9 (ι := Nat) (fun (k : Nat) => [(9, itsA l), (10, iv l.length), (11, iv (k : Int))]) (fun (k : Nat) => []) (fun (k : Nat) => k <= l.length /\ ckIE l = ckIE (l.drop k) /\ ckIX l 0 = ckIX (l.drop k) (k : Int)) (fun (k : Nat) => l.length - k) 0 (fun k hk => ?_) (hJ := by
  exact ⟨by omega, rfl, rfl⟩)
 obtain ⟨hk1, hk2, hk3⟩ := hk;apply yb;refine ye ?_;apply yd;refine yk rfl ?_ ?_<;>intro hc1
 ·obtain ⟨x, hx⟩ : ∃ x, l[k]? = some x := ⟨_, lgg (by omega)⟩;have hx2 : l[(k : Int).toNat]? = some x := by simpa using hx
  apply yf;apply yd;apply X.block;apply yb;iterate 3 refine ya ?_
  refine yJ ?_;refine ya ?_;refine yi ?_;apply Ex.nil;apply yd;apply yb;iterate 3 refine ya ?_
  refine ExF.at 3 ?_;refine yC ?_;iterate 3 refine ExF.gi ?_
  iterate 2 refine yC ?_
  iterate 3 refine ExF.gi ?_
  iterate 2 refine yC ?_
  iterate 3 refine ExF.gi ?_
  refine yA ?_;refine ye ?_;refine yk rfl ?_ ?_<;>intro hc2
  ·have hF : itF x = 2 := by unfold itF; rw [if_pos (by unfold itRg; omega)]
   have hE : ckIE l = 2 := by rw [hk2, za1 hx, hF, if_neg (by decide)]
   have hX : ckIX l 0 = (k : Int) := by rw [hk3, za2 _ hx, hF, if_neg (by decide)]
   apply yb;refine yp ?_;refine X.ret ?_;refine yz ?_ ?_;all_goals (first | (rw [hE]; done) | (rw [hX]; done) | (rw [hE]; rfl) | (rw [hX]; rfl))
  have hR : ¬ itRg x := by unfold itRg; omega
  have hT : (itT x).length = 3 := rfl;apply yf;apply yd;apply yb;iterate 7 refine ya ?_
  refine ye ?_;apply X.block
  refine y9 (ι := Nat) (fun (j : Nat) => [(9, itsA l), (10, iv l.length), (11, iv (k : Int)), (4, iv (k : Int)), (5, .ptr 5 0 0 0), (41, .agg [iv x.Dur.N, iv x.Dur.D, iv x.Before.N, iv x.Before.D, iv x.After.N, iv x.After.D]), (42, iv (j : Int))]) (fun (j : Nat) => [(5, .box (itE x) 62)]) (fun (j : Nat) => j <= 3 /\ yP (itT x) = yP ((itT x).drop j)) (fun (j : Nat) => 3 - j) 0 (fun j hk => ?_) (hJ := by
   exact ⟨by omega, rfl⟩)
  obtain ⟨hj1, hj2⟩ := hk;apply yb;refine ye ?_;apply yd;refine yk rfl ?_ ?_<;>intro hc3
  ·obtain ⟨t, ht⟩ : ∃ t, (itT x)[j]? = some t := ⟨_, lgg (show j < (itT x).length by simp; omega)⟩;have hpt := zj4 x ht;have ht2 : (itT x)[(j : Int).toNat]? = some t := by simpa using ht
   apply yf;apply yd;apply X.block;apply yb;refine ya (hs := by exact zR ArK.h TyK.h rfl rfl (by omega) (by omega) hpt) ?_;refine yJ ?_;refine yi ?_;apply yn;refine ya ?_;refine yr (zfm t) ?_;refine ya ?_;apply yn;refine yh ?_;refine yk rfl ?_ ?_<;>intro hc4
   ·have hf : yP (itT x) = ckT t := by rw [hj2, za0 ht, if_neg hc4]
    have hF : itF x = ckT t := by unfold itF; rw [if_neg hR, hf, if_neg hc4]
    have hE : ckIE l = ckT t := by rw [hk2, za1 hx, hF, if_neg hc4]
    have hX : ckIX l 0 = (k : Int) := by rw [hk3, za2 _ hx, hF, if_neg hc4]
    apply yb;refine yX ?_;refine X.ret ?_;refine yz ?_ ?_;all_goals (first | (rw [hE]; done) | (rw [hX]; done) | (rw [hE]; rfl) | (rw [hX]; rfl))
   apply yf;apply yc;refine yh ?_
   refine yL (j + 1) (hJ := by
    exact ⟨by omega, by rw [hj2, za0 ht, if_pos hc4]⟩)
  ·have hf : yP (itT x) = 0 := by rw [hj2, List.drop_of_length_le (by simp; omega)]; unfold yP; rfl
   apply X.exit;apply yb;(iterate 2 refine ya ?_);refine ExF.at 2 ?_;refine yC ?_;(iterate 2 refine ExF.gi ?_);(iterate 2 refine yC ?_);(iterate 11 refine ExF.gi ?_);refine yA ?_;refine ye ?_;refine yk rfl ?_ ?_<;>intro hc5
   ·have hF : itF x = 8 := by unfold itF; rw [if_neg hR, if_pos hf, if_pos (by unfold itKd; revert hc5; cases x.Rest <;> cases x.Color <;> cases x.Fixed <;> simp)]
    have hE : ckIE l = 8 := by rw [hk2, za1 hx, hF, if_neg (by decide)]
    have hX : ckIX l 0 = (k : Int) := by rw [hk3, za2 _ hx, hF, if_neg (by decide)]
    apply yb;refine yp ?_;refine X.ret ?_;refine yz ?_ ?_;all_goals (first | (rw [hE]; done) | (rw [hX]; done) | (rw [hE]; rfl) | (rw [hX]; rfl))
   have hF : itF x = 0 := by unfold itF; rw [if_neg hR, if_pos hf, if_neg (by unfold itKd; revert hc5; cases x.Rest <;> cases x.Color <;> cases x.Fixed <;> simp)]
   apply yf;apply yc;refine yh ?_
   refine yL (k + 1) (hJ := by
    exact ⟨by omega, by rw [hk2, za1 hx, if_pos hF], by rw [hk3, za2 _ hx, if_pos hF]; rfl⟩)
 ·have hkl : k = l.length := by omega
  have hE : ckIE l = 0 := by rw [hk2, hkl, List.drop_length]; rfl
  have hX : ckIX l 0 = 0 := by rw [hk3, hkl, List.drop_length]; rfl
  apply X.exit;apply yb;refine yh ?_;refine X.ret ?_;refine yz ?_ ?_;all_goals (first | (rw [hE]; done) | (rw [hX]; done) | (rw [hE]; rfl) | (rw [hX]; rfl))
set_option maxHeartbeats 1000000 in
theorem zbM (l : List Ite) (hl : l.length <= 4000000) : Fn Tryz.prog 75 [itsA l] (.tup [iv (ckIE l), iv (ckIX l 0)]) := by
 refine Fn.go Tryz.func75 Tryz.ntmps75 (fun g w d => ?_);apply yb;refine yh ?_;apply yd;apply yb;refine ye ?_;apply X.block
 refine y9 (ι := Nat) (fun (k : Nat) => [(0, itsA l), (4, iv (k : Int))]) (fun (k : Nat) => []) (fun (k : Nat) => k <= l.length /\ ckIE l = ckIE (l.drop k) /\ ckIX l 0 = ckIX (l.drop k) (k : Int)) (fun (k : Nat) => l.length - k) 0 (fun k hk => ?_) (hJ := by
  exact ⟨by omega, rfl, rfl⟩)
 obtain ⟨hk1, hk2, hk3⟩ := hk;apply yd;apply yb;refine yX ?_;refine yk rfl ?_ ?_<;>intro hc1
 ·obtain ⟨x, hx⟩ : ∃ x, l[k]? = some x := ⟨_, lgg (by omega)⟩;have hx2 : l[(k : Int).toNat]? = some x := by simpa using hx
  apply yf;apply yd;apply X.block;apply yb;iterate 4 refine ya ?_
  refine yJ ?_;refine yi ?_;apply Ex.nil;apply yd;apply yb;iterate 3 refine ya ?_
  refine ExF.at 3 ?_;refine yC ?_;iterate 3 refine ExF.gi ?_
  iterate 2 refine yC ?_
  iterate 3 refine ExF.gi ?_
  iterate 2 refine yC ?_
  iterate 3 refine ExF.gi ?_
  refine yA ?_;refine ye ?_;refine yk rfl ?_ ?_<;>intro hc2
  ·have hF : itF x = 2 := by unfold itF; rw [if_pos (by unfold itRg; omega)]
   have hE : ckIE l = 2 := by rw [hk2, za1 hx, hF, if_neg (by decide)]
   have hX : ckIX l 0 = (k : Int) := by rw [hk3, za2 _ hx, hF, if_neg (by decide)]
   apply yb;refine yp ?_;refine X.ret ?_;refine yz ?_ ?_;all_goals (first | (rw [hE]; done) | (rw [hX]; done) | (rw [hE]; rfl) | (rw [hX]; rfl))
  have hR : ¬ itRg x := by unfold itRg; omega
  have hT : (itT x).length = 3 := rfl;apply yf;apply yb;iterate 6 refine ya ?_
  refine Ex.stepA (zV (enc := tmE) (l := [x.Dur, x.Before, x.After]) sl39 ty60 ze60 (by decide) rfl rfl rfl rfl (by decide) (by decide) (fun _ => rfl) rfl) rfl rfl ?_;refine ye ?_;apply yd;apply yb;refine ye ?_;apply X.block
  refine y9 (ι := Nat) (fun (j : Nat) => [(0, itsA l), (4, iv (k : Int)), (5, .ptr 5 0 0 0), (6, tmsA (itT x)), (7, iv (j : Int))]) (fun (j : Nat) => [(5, .box (itE x) 62)]) (fun (j : Nat) => j <= 3 /\ yP (itT x) = yP ((itT x).drop j)) (fun (j : Nat) => 3 - j) 0 (fun j hk => ?_) (hJ := by
   exact ⟨by omega, rfl⟩)
  obtain ⟨hj1, hj2⟩ := hk;apply yd;apply yb;refine yX ?_;refine yk rfl ?_ ?_<;>intro hc3
  ·obtain ⟨t, ht⟩ : ∃ t, (itT x)[j]? = some t := ⟨_, lgg (show j < (itT x).length by simp; omega)⟩;have hpt := zj4 x ht;have ht2 : (itT x)[(j : Int).toNat]? = some t := by simpa using ht
   apply yf;apply yd;apply X.block;apply yb;(iterate 4 refine ya ?_);refine yr (zaI t) ?_;refine ya ?_;apply yn;refine yh ?_;refine yk rfl ?_ ?_<;>intro hc4
   ·have hf : yP (itT x) = ckT t := by rw [hj2, za0 ht, if_neg hc4]
    have hF : itF x = ckT t := by unfold itF; rw [if_neg hR, hf, if_neg hc4]
    have hE : ckIE l = ckT t := by rw [hk2, za1 hx, hF, if_neg hc4]
    have hX : ckIX l 0 = (k : Int) := by rw [hk3, za2 _ hx, hF, if_neg hc4]
    apply yb;refine yX ?_;refine X.ret ?_;refine yz ?_ ?_;all_goals (first | (rw [hE]; done) | (rw [hX]; done) | (rw [hE]; rfl) | (rw [hX]; rfl))
   apply yf;apply yc;refine yp ?_
   refine yL (j + 1) (hJ := by
    exact ⟨by omega, by rw [hj2, za0 ht, if_pos hc4]⟩)
  ·have hf : yP (itT x) = 0 := by rw [hj2, List.drop_of_length_le (by simp; omega)]; unfold yP; rfl
   apply X.exit;apply yb;(iterate 2 refine ya ?_);refine ExF.at 2 ?_;refine yC ?_;(iterate 2 refine ExF.gi ?_);(iterate 2 refine yC ?_);(iterate 11 refine ExF.gi ?_);refine yA ?_;refine ye ?_;refine yk rfl ?_ ?_<;>intro hc5
   ·have hF : itF x = 8 := by unfold itF; rw [if_neg hR, if_pos hf, if_pos (by unfold itKd; revert hc5; cases x.Rest <;> cases x.Color <;> cases x.Fixed <;> simp)]
    have hE : ckIE l = 8 := by rw [hk2, za1 hx, hF, if_neg (by decide)]
    have hX : ckIX l 0 = (k : Int) := by rw [hk3, za2 _ hx, hF, if_neg (by decide)]
    apply yb;refine yp ?_;refine X.ret ?_;refine yz ?_ ?_;all_goals (first | (rw [hE]; done) | (rw [hX]; done) | (rw [hE]; rfl) | (rw [hX]; rfl))
   have hF : itF x = 0 := by unfold itF; rw [if_neg hR, if_pos hf, if_neg (by unfold itKd; revert hc5; cases x.Rest <;> cases x.Color <;> cases x.Fixed <;> simp)]
   apply yf;apply yc;refine yp ?_
   refine yL (k + 1) (hJ := by
    exact ⟨by omega, by rw [hk2, za1 hx, if_pos hF], by rw [hk3, za2 _ hx, if_pos hF]; rfl⟩)
 ·have hkl : k = l.length := by omega
  have hE : ckIE l = 0 := by rw [hk2, hkl, List.drop_length]; rfl
  have hX : ckIX l 0 = 0 := by rw [hk3, hkl, List.drop_length]; rfl
  apply X.exit;apply yb;refine yh ?_;refine X.ret ?_;refine yz ?_ ?_;all_goals (first | (rw [hE]; done) | (rw [hX]; done) | (rw [hE]; rfl) | (rw [hX]; rfl))
theorem zfD (m : Mn) (k : Int) (h0 : -9223372036854775808 <= k) (h1 : k <= 9223372036854775807) : Fn Tryz.prog 91 [mnA m, iv k] (.tup [tmA (unT m k), iv (unE m k)]) := by
 refine Fn.go Tryz.func91 Tryz.ntmps91 (fun g w d => ?_);apply yb;refine yH ?_;refine yJ ?_;refine ya ?_;apply yn;refine ya ?_;refine yr (zeI m) ?_;refine y4 ?_;apply yd;apply X.block;apply yb;refine yp ?_;refine yk rfl ?_ ?_<;>intro hc1
 ·have hU : unE m k = ckM m := by unfold unE; rw [if_neg hc1]
  have hV : unT m k = tmZ := by unfold unT; rw [if_neg (by rw [hU]; exact hc1)]
  apply yb;iterate 2 refine ya ?_
  refine yi ?_;refine ye ?_;refine X.ret ?_;refine yF ty60 ?_ ?_;all_goals (first | (rw [hU]; done) | (rw [hV]; rfl) | (rw [hU]; rfl) | (rw [hV]; done))
 have hck : ckM m = 0 := hc1;apply yb;iterate 2 refine ya ?_
 refine yr (yV (if ckM m = 0 then perfL m else []) k (by have := zit m; split <;> simp <;> omega)) ?_;refine yh ?_;refine yk rfl ?_ ?_<;>intro hc2
 ·rw [if_pos hck] at hc2;have hU : unE m k = 2 := by unfold unE; rw [if_pos hck, if_neg (fun h => absurd ((zf6 m k).2 h) (by simpa using hc2))]
  have hV : unT m k = tmZ := by unfold unT; rw [if_neg (by rw [hU]; decide)]
  apply yb;refine ya ?_;refine yi ?_;refine ye ?_;refine X.ret ?_;refine yF ty60 ?_ ?_;all_goals (first | (rw [hU]; done) | (rw [hV]; rfl) | (rw [hU]; rfl) | (rw [hV]; done))
 rw [if_pos hck] at hc2;have hm := (zf6 m k).1 (by simpa using hc2);have hU : unE m k = 0 := by unfold unE; rw [if_pos hck, if_pos hm]
 have hV : unT m k = zo m (k + 1) := by unfold unT; rw [if_pos hU]
 apply yf;apply yb;iterate 3 refine ya ?_
 refine yr (zcS (v := k + 1) hck (by omega) (by omega)) ?_;iterate 2 refine ya ?_
 refine yi ?_;refine ye ?_;refine X.ret ?_;refine yF ty60 ?_ ?_;all_goals (first | (rw [hU]; done) | (rw [hV]; rfl) | (rw [hU]; rfl) | (rw [hV]; done))
theorem zcd (m : Mn) (k : Int) : Fn Tryz.prog 129 [mnA m, iv k] (.tup [tmA (unT m k), iv (unE m k)]) := by
 refine Fn.go Tryz.func129 Tryz.ntmps129 (fun g w d => ?_);apply yb;refine yH ?_;refine yJ ?_;refine ya ?_;apply yn;refine ya ?_;refine yr (zY m) ?_;refine ye ?_;apply yd;apply yb;refine yh ?_;refine yk rfl ?_ ?_<;>intro hc1
 ·have hU : unE m k = ckM m := by unfold unE; rw [if_neg hc1]
  have hV : unT m k = tmZ := by unfold unT; rw [if_neg (by rw [hU]; exact hc1)]
  apply yb;iterate 2 refine ya ?_
  refine yi ?_;refine ye ?_;refine X.ret ?_;refine yF ty60 ?_ ?_;all_goals (first | (rw [hU]; done) | (rw [hV]; rfl) | (rw [hU]; rfl) | (rw [hV]; done))
 have hck : ckM m = 0 := hc1;apply yf;apply yd;apply yb;iterate 2 refine ya ?_
 refine ExF.at 2 ?_;refine yC ?_;iterate 2 refine ExF.gi ?_
 iterate 2 refine yC ?_
 iterate 2 refine ExF.gi ?_
 refine ExF.cg (zz m k) ?_;refine ExF.gi ?_;refine yA ?_;refine ye ?_;refine yk rfl ?_ ?_<;>intro hc2
 ·have hU : unE m k = 2 := by unfold unE; rw [if_pos hck, if_neg (by omega)]
  have hV : unT m k = tmZ := by unfold unT; rw [if_neg (by rw [hU]; decide)]
  apply yb;refine ya ?_;refine yi ?_;refine ye ?_;refine X.ret ?_;refine yF ty60 ?_ ?_;all_goals (first | (rw [hU]; done) | (rw [hV]; rfl) | (rw [hU]; rfl) | (rw [hV]; done))
 have hU : unE m k = 0 := by unfold unE; rw [if_pos hck, if_pos (by omega)]
 have hV : unT m k = zo m (k + 1) := by unfold unT; rw [if_pos hU]
 apply yf;apply yb;iterate 3 refine ya ?_
 refine yr (zaG (v := k + 1) hck (by omega) (by omega)) ?_;iterate 2 refine ya ?_
 refine yi ?_;refine ye ?_;refine X.ret ?_;refine yF ty60 ?_ ?_;all_goals (first | (rw [hU]; done) | (rw [hV]; rfl) | (rw [hU]; rfl) | (rw [hV]; done))
theorem zar (l : List Ite) (b : Bd) (hb : b.item < l.length) : Fn Tryz.prog 162 [.agg [itsA l], bdA b] (iv (hdI l b)) := by
 refine Fn.go Tryz.func162 Tryz.ntmps162 (fun g w d => ?_);apply yb;iterate 2 refine yH ?_
 refine ye ?_;apply yd;apply yb;iterate 3 refine ya ?_
 refine ExF.at 3 ?_;refine yC ?_;iterate 7 refine ExF.gi ?_
 refine yA ?_;refine ye ?_;refine yk rfl ?_ ?_<;>intro hc1
 ·have hH : hdI l b = -1 := by unfold hdI; rw [if_pos hc1]
  apply yb;refine ye ?_;refine X.ret ?_;refine ym ?_;all_goals (rw [hH])
 have hH : hdI l b = b.item := by unfold hdI; rw [if_neg (by rintro (h | h); omega; (rw [hc1.2] at h; cases h))]
 apply yf;apply yb;refine yp ?_;refine X.ret ?_;refine ym ?_;all_goals (rw [hH])
theorem zce (l : List Ite) (b : Bd) (hb : b.item < l.length) : Fn Tryz.prog 131 [itsA l, .agg [iv (bdF b), iv b.next, iv b.item]] (iv (hdI l b)) := by
 refine Fn.go Tryz.func131 Tryz.ntmps131 (fun g w d => ?_);apply yb;refine yH ?_;refine ye ?_;apply yd;apply yb;iterate 3 refine ya ?_
 refine ExF.at 3 ?_;refine yC ?_;iterate 7 refine ExF.gi ?_
 refine yA ?_;refine ye ?_;refine yk rfl ?_ ?_<;>intro hc1
 ·have hH : hdI l b = b.item := by unfold hdI; rw [if_neg (by rintro (h | h); omega; (rw [hc1.2] at h; cases h))]
  apply yb;refine yp ?_;refine X.ret ?_;refine ym ?_;all_goals (rw [hH])
 have hH : hdI l b = -1 := by unfold hdI; rw [if_pos (by rcases hc1 with h | h; exact .inl (by omega); exact .inr h)]
 apply yf;apply yb;refine ye ?_;refine X.ret ?_;refine ym ?_;all_goals (rw [hH])
theorem zaW (a b : Tm) : Fn Tryz.prog 208 [tmA a, tmA b] (.tup [tmA (if lsE a b = 0 then subV a b else tmZ), iv (lsE a b)]) := by
 refine Fn.go Tryz.func208 Tryz.ntmps208 (fun g w d => ?_);apply yb;iterate 2 refine yH ?_
 refine yJ ?_;refine ya ?_;apply yn;iterate 2 refine ya ?_
 refine yr (zak a b) ?_;iterate 3 refine ya ?_
 refine yJ ?_;refine yi ?_;refine ye ?_;apply yd;apply yb;refine yh ?_;refine yk rfl ?_ ?_<;>intro hc1
 ·have hE : lsE a b = 14 := by unfold lsE; rw [if_pos hc1]
  apply yb;refine ya ?_;refine yi ?_;refine ye ?_;refine X.ret ?_;refine yF ty60 ?_ ?_;all_goals (first | (rw [hE]; done) | (rw [hE]; rfl) | (rw [hE, hV]; done) | (rw [hE, hV]; rfl))
 have hE : lsE a b = subE a b := by unfold lsE; rw [if_neg hc1]
 have hV : (if subE a b = 0 then subV a b else tmZ) = subV a b := by
  split
  ·rfl
  ·rename_i h; unfold subV; unfold subE at h; split
   ·rename_i h2; rw [if_pos h2] at h; unfold tmkT; rw [if_neg h]
   ·rfl
 apply yf;apply yb;iterate 2 refine ya ?_
 refine yi ?_;refine ye ?_;refine X.ret ?_;refine yF ty60 ?_ ?_;all_goals (first | (rw [hE]; done) | (rw [hE]; rfl) | (rw [hE, hV]; done) | (rw [hE, hV]; rfl))
end Go.Rse
namespace Go.Rse
open Go Go.Proofs
attribute [local irreducible] Pur yK yM Ex X Fn Imp LeV LeB FnO It yW
def bdX (k : Int) (l : List Ite) : List (List AV) := (bds k l).map fun b => [bdA b]
theorem zjb {k : Int} {l : List Ite} {j : Nat} {zs : List AV} (h : (bdX k l)[j]? = some zs) : ∃ b, (bds k l)[j]? = some b /\ zs = [bdA b] := by
 rw [bdX, List.getElem?_map] at h;cases hk : (bds k l)[j]? with
 | none => simp [hk] at h
 | some b => simp [hk] at h; exact ⟨b, rfl, h.symm⟩
theorem zlF (k : Int) (l : List Ite) : (bdX k l).length = (bdK k l l.length).length + 1 := by unfold bdX; rw [List.length_map, zcX]
theorem zlG {k : Int} {l : List Ite} (n : Nat) : ∀ d, ∃ r, bdK k l (n + d) = bdK k l n ++ r
 | 0 => ⟨[], by simp⟩
 | d + 1 => by
  obtain ⟨r, hr⟩ := zlG (k := k) (l := l) n d;cases hx : l[n + d]? with
  | none =>
   have e : bdK k l (n + d + 1) = bdK k l (n + d) := by
    conv => lhs; unfold bdK
    rw [hx]
   exact ⟨r, by rw [show n + (d + 1) = n + d + 1 from rfl, e]; exact hr⟩
  | some x => exact ⟨r ++ ((if isH k x then [⟨(n + d : Nat), (n + d : Nat) + 1, false⟩] else []) ++ if isC k x then [⟨-1, (n + d : Nat) + 1, false⟩] else []), by
   show bdK k l ((n + d) + 1) = _;rw [zbB hx, hr]; simp only [List.append_assoc]⟩
theorem zkP {k : Int} {l : List Ite} {n : Nat} {p : List Bd} {b : Bd} {q : List Bd} (hn : n + 1 <= l.length) (h : bdK k l (n + 1) = p ++ b :: q) : (bds k l)[p.length]? = some b := by
 obtain ⟨r, hr⟩ := zlG (k := k) (l := l) (n + 1) (l.length - (n + 1));rw [show n + 1 + (l.length - (n + 1)) = l.length by omega, h] at hr;unfold bds;rw [hr]; simp
theorem zhv {k : Int} {l : List Ite} {i : Nat} {b : Bd} (h : (bds k l)[i]? = some b) : (bdX k l)[i]? = some [bdA b] := by
 unfold bdX; rw [List.getElem?_map, h]; rfl
theorem zns {k : Int} {l : List Ite} {n : Nat} {x : Ite} (hx : l[n]? = some x) (h : ¬ isH k x) :
 (bdK k l (n + 1)).length = (bdK k l n).length + (if isC k x then 1 else 0) /\ (isC k x -> (bdX k l)[(bdK k l n).length]? = some [bdA ⟨-1, (n : Int) + 1, false⟩]) := by
 have hs := zbB (k := k) hx;rw [if_neg h, List.append_nil] at hs;have hlt := (List.getElem?_eq_some_iff.1 hx).1;refine ⟨by rw [hs, List.length_append]; split <;> rfl, fun hc => zhv (zkP (q := []) (n := n) (by omega) (by rw [hs, if_pos hc]))⟩
theorem zsw {k : Int} {l : List Ite} {n : Nat} {x : Ite} (hx : l[n]? = some x) (h : isH k x) :
 (bdX k l)[(bdK k l n).length]? = some [bdA ⟨(n : Int), (n : Int) + 1, false⟩] /\ (bdK k l (n + 1)).length = (bdK k l n).length + 1 + (if isC k x then 1 else 0) /\ (isC k x -> (bdX k l)[(bdK k l n).length + 1]? = some [bdA ⟨-1, (n : Int) + 1, false⟩]) := by
 have hs := zbB (k := k) hx;rw [if_pos h] at hs;have hlt := (List.getElem?_eq_some_iff.1 hx).1;refine ⟨zhv (zkP (n := n) (by omega) (by rw [hs, List.append_assoc]; rfl)), by rw [hs, List.length_append, List.length_append]; split <;> rfl, fun hc => ?_⟩;have := zhv (zkP (k := k) (l := l) (p := bdK k l n ++ [⟨(n : Int), (n : Int) + 1, false⟩]) (q := []) (n := n) (b := ⟨-1, (n : Int) + 1, false⟩) (by omega) (by rw [hs, if_pos hc]));rw [List.length_append] at this; exact this
theorem ztY (k : Int) (l : List Ite) : (bdX k l)[0]? = some [bdA ⟨-1, 0, false⟩] := zhv (zjG k l)
theorem zqN (k : Int) (l : List Ite) : (bdX k l)[(bdK k l l.length).length]? = some [bdA ⟨-1, (l.length : Int), true⟩] := zhv (by unfold bds; simp)
attribute [local irreducible] bdK bds bdX
set_option maxHeartbeats 4000000 in
theorem zd6 (k : Int) (l : List Ite) (hl : l.length <= 4000000) : It Tryz.prog 228 [.ept (fun _ : Unit => [.sl itE l]) () 0, .ept (fun _ : Unit => [iv k]) () 0] (bdX k l) := by
 have hp0 : (bdK k l 0).length = 1 := by unfold bdK; rfl
 have hpl := zco k l l.length;refine It.intro (ts := fun lY => [(0, .yv lY), (1, .ept (fun _ : Unit => [.sl itE l]) () 0), (2, .ept (fun _ : Unit => [iv k]) () 0)]) (n := 58) (by kernel_rfl) Tryz.func228 rfl Tryz.ntmps228 rfl (fun _ => rfl) (by simp) (fun g w d ds Y lY hY => ?_);apply yd;apply yb;iterate 2 refine ya ?_
 refine Ex.yield hY rfl rfl rfl (LeL.refl _) rfl rfl (ztY k l) rfl (fun b => ?_);refine ye ?_;refine yk rfl ?_ ?_<;>intro hc1
 ·subst hc1;refine X.ret ?_;refine ⟨.inr rfl, _, false, rfl, fun hb => by simp at hb⟩
 subst hc1;apply yf;apply yd;apply yb;refine yp ?_;apply X.block;refine y9 (ι := Nat) (fun (n : Nat) => [(0, .yv lY), (1, .ept (fun _ : Unit => [.sl itE l]) () 0), (2, .ept (fun _ : Unit => [iv k]) () 0), (10, itsA l), (11, iv l.length), (12, iv (n : Int))]) (fun (n : Nat) => [(1000000, .yld (bdK k l n).length true)]) (fun (n : Nat) => n <= l.length) (fun (n : Nat) => l.length - n) 0 (fun n hk => ?_);apply yb;refine ye ?_;apply yd;refine yk rfl ?_ ?_<;>intro hc2
 ·obtain ⟨x, hx⟩ : ∃ x, l[n]? = some x := ⟨_, lgg (by omega)⟩;have hx2 : l[(n : Int).toNat]? = some x := by simpa using hx
  apply yf;apply yd;apply X.block;apply yb;iterate 3 refine ya ?_
  refine yJ ?_;refine ya ?_;refine yi ?_;apply Ex.nil;iterate 2 apply yd
  have hcs : x.Color = true \/ (x.Color = false /\ ¬ x.Value <= k) \/ (x.Color = false /\ x.Value <= k) := by cases x.Color <;> simp; omega
  rcases hcs with hp | ⟨hp, hq⟩ | ⟨hp, hq⟩
  ·have hg3 : ((!x.Color) == true) = false := by rw [hp]; rfl
   have hnh : ¬ isH k x := fun h => by rw [h.1] at hp; cases hp
   have hZ := zns (k := k) hx hnh;obtain ⟨hS, hC⟩ := hZ;apply yc;(iterate 4 refine ya ?_);(iterate 4 refine zbl ?_);(iterate 2 refine ya ?_);(iterate 7 refine zbl ?_);refine ye ?_;refine yk rfl ?_ ?_<;>intro hc3
   ·exact absurd hc3 (by decide)
   apply yf;apply yd;have hcs2 : ¬ 0 < x.Cut \/ (0 < x.Cut /\ ¬ x.Cut <= k) \/ (0 < x.Cut /\ x.Cut <= k) := by omega
   rcases hcs2 with ha | ⟨ha, hb2⟩ | ⟨ha, hb2⟩
   ·have hg3 : (decide (0 < x.Cut) == true) = false := by rw [decide_eq_false ha]; rfl
    rw [if_neg (fun h => ha h.1), Nat.add_zero] at hS;apply yc;(iterate 4 refine ya ?_);(iterate 4 refine zbl ?_);(iterate 2 refine ya ?_);(iterate 6 refine zbl ?_);refine ye ?_;refine yk rfl ?_ ?_<;>intro hc4
    ·exact absurd hc4 (by decide)
    apply yf;apply yc;refine yh ?_;refine yL (n + 1)
   ·have hg3 : (decide (0 < x.Cut) == true) = true := by rw [decide_eq_true ha]; rfl
    have hg9 : (decide (x.Cut <= k) == true) = false := by rw [decide_eq_false hb2]; rfl
    rw [if_neg (fun h => hb2 h.2), Nat.add_zero] at hS;apply yc;(iterate 4 refine ya ?_);(iterate 4 refine zS ?_);(iterate 2 refine ya ?_);(iterate 6 refine zbl ?_);refine ye ?_;refine yk rfl ?_ ?_<;>intro hc5
    ·exact absurd hc5 (by decide)
    apply yf;apply yc;refine yh ?_;refine yL (n + 1)
   ·have hg3 : (decide (0 < x.Cut) == true) = true := by rw [decide_eq_true ha]; rfl
    have hg9 : (decide (x.Cut <= k) == true) = true := by rw [decide_eq_true hb2]; rfl
    have hY2 := hC ⟨ha, hb2⟩;rw [if_pos ⟨ha, hb2⟩] at hS;apply yc;(iterate 4 refine ya ?_);(iterate 4 refine zS ?_);(iterate 2 refine ya ?_);(iterate 4 refine zS ?_);refine zbV hY rfl rfl rfl (fun _ => ⟨_, _, rfl, rfl, rfl, LeL.refl _, rfl, rfl, hY2, fun b => ?_⟩) (fun h => absurd (h.symm.trans hg9) (by decide));refine zS ?_;refine ye ?_;refine yk rfl ?_ ?_<;>intro hc6
    ·subst hc6;refine X.ret ?_;refine ⟨.inr rfl, _, false, rfl, fun hb => by simp at hb⟩
    subst hc6;apply yf;apply yc;refine yh ?_;refine yL (n + 1)
  ·have hg3 : ((!x.Color) == true) = true := by rw [hp]; rfl
   have hg9 : (decide (x.Value <= k) == true) = false := by rw [decide_eq_false hq]; rfl
   have hnh : ¬ isH k x := fun h => hq h.2
   have hZ := zns (k := k) hx hnh;obtain ⟨hS, hC⟩ := hZ;apply yc;(iterate 4 refine ya ?_);(iterate 4 refine zS ?_);(iterate 2 refine ya ?_);(iterate 7 refine zbl ?_);refine ye ?_;refine yk rfl ?_ ?_<;>intro hc7
   ·exact absurd hc7 (by decide)
   apply yf;apply yd;have hcs2 : ¬ 0 < x.Cut \/ (0 < x.Cut /\ ¬ x.Cut <= k) \/ (0 < x.Cut /\ x.Cut <= k) := by omega
   rcases hcs2 with ha | ⟨ha, hb2⟩ | ⟨ha, hb2⟩
   ·have hg3 : (decide (0 < x.Cut) == true) = false := by rw [decide_eq_false ha]; rfl
    rw [if_neg (fun h => ha h.1), Nat.add_zero] at hS;apply yc;(iterate 4 refine ya ?_);(iterate 4 refine zbl ?_);(iterate 2 refine ya ?_);(iterate 6 refine zbl ?_);refine ye ?_;refine yk rfl ?_ ?_<;>intro hc8
    ·exact absurd hc8 (by decide)
    apply yf;apply yc;refine yh ?_;refine yL (n + 1)
   ·have hg3 : (decide (0 < x.Cut) == true) = true := by rw [decide_eq_true ha]; rfl
    have hg9 : (decide (x.Cut <= k) == true) = false := by rw [decide_eq_false hb2]; rfl
    rw [if_neg (fun h => hb2 h.2), Nat.add_zero] at hS;apply yc;(iterate 4 refine ya ?_);(iterate 4 refine zS ?_);(iterate 2 refine ya ?_);(iterate 6 refine zbl ?_);refine ye ?_;refine yk rfl ?_ ?_<;>intro hc9
    ·exact absurd hc9 (by decide)
    apply yf;apply yc;refine yh ?_;refine yL (n + 1)
   ·have hg3 : (decide (0 < x.Cut) == true) = true := by rw [decide_eq_true ha]; rfl
    have hg9 : (decide (x.Cut <= k) == true) = true := by rw [decide_eq_true hb2]; rfl
    have hY2 := hC ⟨ha, hb2⟩;rw [if_pos ⟨ha, hb2⟩] at hS;apply yc;(iterate 4 refine ya ?_);(iterate 4 refine zS ?_);(iterate 2 refine ya ?_);(iterate 4 refine zS ?_);refine zbV hY rfl rfl rfl (fun _ => ⟨_, _, rfl, rfl, rfl, LeL.refl _, rfl, rfl, hY2, fun b => ?_⟩) (fun h => absurd (h.symm.trans hg9) (by decide));refine zS ?_;refine ye ?_;refine yk rfl ?_ ?_<;>intro hc10
    ·subst hc10;refine X.ret ?_;refine ⟨.inr rfl, _, false, rfl, fun hb => by simp at hb⟩
    subst hc10;apply yf;apply yc;refine yh ?_;refine yL (n + 1)
  ·have hg3 : ((!x.Color) == true) = true := by rw [hp]; rfl
   have hg9 : (decide (x.Value <= k) == true) = true := by rw [decide_eq_true hq]; rfl
   have hZ := zsw (k := k) hx ⟨hp, hq⟩;obtain ⟨hY1, hS, hC⟩ := hZ;apply yc;(iterate 4 refine ya ?_);(iterate 4 refine zS ?_);(iterate 2 refine ya ?_);(iterate 5 refine zS ?_);refine zbV hY rfl rfl rfl (fun _ => ⟨_, _, rfl, rfl, rfl, LeL.refl _, rfl, rfl, hY1, fun b => ?_⟩) (fun h => absurd (h.symm.trans hg9) (by decide));refine zS ?_;refine ye ?_;refine yk rfl ?_ ?_<;>intro hc11
   ·subst hc11;refine X.ret ?_;refine ⟨.inr rfl, _, false, rfl, fun hb => by simp at hb⟩
   subst hc11;apply yf;apply yd;have hcs2 : ¬ 0 < x.Cut \/ (0 < x.Cut /\ ¬ x.Cut <= k) \/ (0 < x.Cut /\ x.Cut <= k) := by omega
   rcases hcs2 with ha | ⟨ha, hb2⟩ | ⟨ha, hb2⟩
   ·have hg3 : (decide (0 < x.Cut) == true) = false := by rw [decide_eq_false ha]; rfl
    rw [if_neg (fun h => ha h.1), Nat.add_zero] at hS;apply yc;(iterate 4 refine ya ?_);(iterate 4 refine zbl ?_);(iterate 2 refine ya ?_);(iterate 6 refine zbl ?_);refine ye ?_;refine yk rfl ?_ ?_<;>intro hc12
    ·exact absurd hc12 (by decide)
    apply yf;apply yc;refine yh ?_;refine yL (n + 1)
   ·have hg3 : (decide (0 < x.Cut) == true) = true := by rw [decide_eq_true ha]; rfl
    have hg9 : (decide (x.Cut <= k) == true) = false := by rw [decide_eq_false hb2]; rfl
    rw [if_neg (fun h => hb2 h.2), Nat.add_zero] at hS;apply yc;(iterate 4 refine ya ?_);(iterate 4 refine zS ?_);(iterate 2 refine ya ?_);(iterate 6 refine zbl ?_);refine ye ?_;refine yk rfl ?_ ?_<;>intro hc13
    ·exact absurd hc13 (by decide)
    apply yf;apply yc;refine yh ?_;refine yL (n + 1)
   ·have hg3 : (decide (0 < x.Cut) == true) = true := by rw [decide_eq_true ha]; rfl
    have hg9 : (decide (x.Cut <= k) == true) = true := by rw [decide_eq_true hb2]; rfl
    have hY2 := hC ⟨ha, hb2⟩;rw [if_pos ⟨ha, hb2⟩] at hS;apply yc;(iterate 4 refine ya ?_);(iterate 4 refine zS ?_);(iterate 2 refine ya ?_);(iterate 4 refine zS ?_);refine zbV hY rfl rfl rfl (fun _ => ⟨_, _, rfl, rfl, rfl, LeL.refl _, rfl, rfl, hY2, fun b => ?_⟩) (fun h => absurd (h.symm.trans hg9) (by decide));refine zS ?_;refine ye ?_;refine yk rfl ?_ ?_<;>intro hc14
    ·subst hc14;refine X.ret ?_;refine ⟨.inr rfl, _, false, rfl, fun hb => by simp at hb⟩
    subst hc14;apply yf;apply yc;refine yh ?_;refine yL (n + 1)
 ·have hkl : n = l.length := by omega
  subst hkl;apply X.exit;apply yc;iterate 4 refine ya ?_
  refine Ex.yield hY rfl rfl rfl (LeL.refl _) rfl rfl (zqN k l) rfl (fun b => ?_);apply Ex.nil;refine ⟨.inl rfl, _, b, rfl, fun h => by rw [zlF, h]; rfl⟩
theorem ze5 (k : Int) (l : List Ite) : Fn Tryz.prog 161 [iv k, itsA l] (.fn 228 [.ept (fun _ : Unit => [.sl itE l]) () 0, .ept (fun _ : Unit => [iv k]) () 0]) := by
 refine Fn.go Tryz.func161 Tryz.ntmps161 (fun g w d => ?_);apply yb;iterate 2 refine zeH ?_
 refine ya ?_;apply yn;refine yh ?_;refine X.ret ?_;refine yu ((y8 (k := 2) rfl rfl).trans (y8 (k := 3) rfl rfl)) ?_;refine ym ?_;all_goals (first | rfl | (simp_all; done))
end Go.Rse
namespace Go.Rse
open Go Go.Proofs
attribute [local irreducible] Pur yK yM Ex X Fn Imp LeV LeB FnO It yW
def fsB : Nat -> Bool
 | 0 => true
 | _ + 1 => false
def lsB (k : Int) (l : List Ite) : Nat -> Bd
 | 0 => ⟨0, 0, false⟩
 | j + 1 => (bds k l).getD j default
theorem zhw {k : Int} {l : List Ite} {j : Nat} {b : Bd} (h : (bds k l)[j]? = some b) : b = lsB k l (j + 1) := by
 show b = (bds k l).getD j default;rw [List.getD_eq_getElem?_getD, h]; rfl
theorem znt {k : Int} {l : List Ite} {j : Nat} (h : j < (bds k l).length) : (lsB k l (j + 1)).item < l.length := by
 have hb : (bds k l)[j]? = some (bds k l)[j] := lgg h;rw [← zhw hb];have h2 := (zkv k l).1 _ (List.mem_of_getElem? hb);have := h2.hi;rcases h2.it with h3 | ⟨h3, h4, h5⟩ <;> omega
theorem zoD {k : Int} {l : List Ite} {j : Nat} (h : j + 1 < (bds k l).length) : sgs0 l ((bds k l).take (j + 1)) ++ [sg0 l (lsB k l (j + 1)) (lsB k l (j + 2))] = sgs0 l ((bds k l).take (j + 2)) := by
 have hb : (bds k l)[j]? = some (bds k l)[j] := lgg (by omega);have hc : (bds k l)[j + 1]? = some (bds k l)[j + 1] := lgg h
 have e2 : (bds k l).take (j + 2) = ((bds k l).take j ++ [(bds k l)[j]]) ++ [(bds k l)[j + 1]] := by
  rw [List.take_add_one, List.take_add_one, hb, hc]; rfl
 have e1 : (bds k l).take (j + 1) = (bds k l).take j ++ [(bds k l)[j]] := by rw [List.take_add_one, hb]; rfl
 rw [e2, e1, zib, ← zhw hb, ← zhw hc]
theorem zqO {k : Int} {l : List Ite} : sgs0 l ((bds k l).take 0) = sgs0 l ((bds k l).take 1) := by
 cases bds k l with
 | nil => rfl
 | cons b r => rfl
theorem znu (k : Int) (l : List Ite) (j : Nat) : (sgs0 l ((bds k l).take j)).length <= 2 * l.length + 2 := by
 have h := zco k l l.length;have h2 := zcX k l;rw [zdJ, List.length_take]; omega
theorem zqP {k : Int} {l : List Ite} {j : Nat} (h : j < (bds k l).length) : ((lsB k l (j + 1)).fin = true -> j + 1 = (bds k l).length) /\ ((lsB k l (j + 1)).fin = false -> j + 1 < (bds k l).length) := by
 have hb : (bds k l)[j]? = some (bds k l)[j] := lgg h;rw [← zhw hb];have := zok hb;rw [this];constructor
 ·intro h; simpa using h
 ·intro h;have : ¬ j + 1 = (bds k l).length := by simpa using h
  omega
theorem znv {k : Int} {l : List Ite} {j : Nat} (hf : fsB j = false) (h : j < (bds k l).length) : sgs0 l ((bds k l).take j) ++ [sg0 l (lsB k l j) (lsB k l (j + 1))] = sgs0 l ((bds k l).take (j + 1)) := by
 cases j with
 | zero => cases hf
 | succ i => exact zoD h
theorem zoE {k : Int} {l : List Ite} {j : Nat} (hf : fsB j = true) : sgs0 l ((bds k l).take j) = sgs0 l ((bds k l).take (j + 1)) := by
 cases j with
 | zero => exact zqO
 | succ i => cases hf
theorem zoF {k : Int} {l : List Ite} {j : Nat} (hf : fsB j = false) (h : j < (bds k l).length) : (lsB k l j).item < l.length := by
 cases j with
 | zero => cases hf
 | succ i => exact znt (by omega)
attribute [local irreducible] bdK bds bdX sgs0 hdI
set_option maxHeartbeats 4000000 in
theorem zds (q : List Ite) (k : Int) (hl : q.length <= 1000000) : FnO Tryz.prog 92 [.agg [itsA q], iv k] [] [] (.own 39) [(39, .row smE (sgs0 q (bds k q)) 104 7)] := by
 have hf0 : fsB 0 = true := by unfold fsB; rfl
 have hl0 : lsB k q 0 = ⟨0, 0, false⟩ := by unfold lsB; rfl
 have ht0 : [] = sgs0 q ((bds k q).take 0) := by rw [List.take_zero]; unfold sgs0; rfl
 have htl : sgs0 q ((bds k q).take (bdX k q).length) = sgs0 q (bds k q) := by rw [zlF, ← zcX, List.take_length]
 refine FnO.intro (ts := [(0, .agg [itsA q]), (1, iv k)]) (rv := [.tmp 4]) (n := 43) (cs := []) (by kernel_rfl) Tryz.func92 rfl Tryz.ntmps92 rfl rfl (by simp) rfl rfl rfl rfl (fun g w d vh => ?_);apply yb;refine yH ?_;refine ya ?_;apply yn;refine yJ ?_;apply Ex.nil;apply yd;refine y3 (zb8 smE 104 7 5 39 55 rfl rfl) ?_;apply yc;refine yJ ?_;apply yn;refine yJ ?_;refine yi ?_;apply Ex.nil;apply yd;apply yb;iterate 3 refine ya ?_
 refine yr (ze5 k q) ?_;apply Ex.nil;apply X.block;refine X.range (sl := [2, 5, 6, 7]) (fun j => ([.ptr 2 0 0 0, .ptr 5 0 0 0, .ptr 6 0 0 0, .ptr 7 0 0 0], [(1000001, .hold vh []), (2, .box [itsA q] 132), (5, .box [.own 39] 55), (39, .row smE (sgs0 q ((bds k q).take j)) 104 7), (6, .box (bdE (lsB k q j)) 216), (7, .box [.bool (fsB j)] 4)])) (fun j => True) 900001 900002 rfl rfl (by decide) (fun j zs hj => by obtain ⟨i, _, rfl⟩ := zjb hj; rfl) (zd6 k q (by omega)) trivial rfl rfl (by decide) (Nat.zero_le _) (by simp) (fun j zs hj => by obtain ⟨i, _, rfl⟩ := zjb hj; rfl) (fun _ => rfl) rfl rfl (fun l o us => yl) (trivial) (fun j zs hj hJ l ready busy rb vs g w hb hyB => ?_) (fun hJ => ?_)
 ·have hZ1 := zjb hj;obtain ⟨b, hb0, rfl⟩ := hZ1;have hbe := zhw hb0;subst hbe;have hjl : j < (bds k q).length := (List.getElem?_eq_some_iff.1 hb0).1;have hlt := znu k q j;have hfin := zqP hjl;have hfs : fsB (j + 1) = false := by unfold fsB; rfl
  apply yc;refine yJ ?_;refine yi ?_;apply Ex.nil;refine ⟨rfl, rfl, ?_⟩;apply X.block;apply yd;apply yb;refine yh ?_;refine yk rfl ?_ ?_<;>intro hc1
  ·have hb1 := zoF hc1 hjl;have hb2 := znt (k := k) (l := q) (j := j) hjl;have hst := znv hc1 hjl;unfold sg0 bdF at hst;apply yb;refine yp ?_;apply yd;apply yb;refine yp ?_;refine yk rfl ?_ ?_<;>intro hc2
   ·rw [if_pos hc2] at hst;apply yc;refine yp ?_;refine zi [24,25,26,27,28,29,30,31,32,33,34,35,36,37] [0,0,2,0,0,0,48,0,0,496,0,1024,4094,8190,16383,32767] mo ?_;(iterate 6 refine yj ?_);refine zj (zar q (lsB k q j) hb1) ?_;(iterate 2 refine yj ?_);refine zj (zar q (lsB k q (j + 1)) hb2) ?_;(iterate 3 refine yj ?_);refine ChM.step rfl rfl rfl (yT (k := 37) (enc := smE) (l := [⟨(lsB k q j).next, (lsB k q (j + 1)).item, hdI q (lsB k q j), hdI q (lsB k q (j + 1)), (lsB k q (j + 1)).fin, ⟨0, 0⟩⟩]) sl55 zn1 zl1 (by decide) rfl rfl rfl rfl (by decide) (by decide) (fun _ => rfl) rfl) rfl ?_;refine yR ?_;(iterate 2 refine yi ?_);apply yn;refine ya ?_;(iterate 2 refine yi ?_);apply yn;refine yh ?_;refine yk rfl ?_ ?_<;>intro hc3
    ·have htk : (bds k q).take (j + 1) = bds k q := by rw [hfin.1 hc3, List.take_length]
     rw [htk] at hst;apply X.exit;refine ⟨[.ptr 2 0 0 0, .ptr 5 0 0 0, .ptr 6 0 0 0, .ptr 7 0 0 0], [(1000001, .hold vh []), (5, .box [.own 39] 55), (39, .row smE (sgs0 q (bds k q)) 104 7)], yl, ?_⟩;apply yb;refine yh ?_;refine X.ret ?_;refine zlm.mk (ts := [(4, .own 39)]) (.inr rfl) (yl) (.one (.tmp rfl (LeV.eq rfl)))
    apply yf;refine ⟨[.ptr 2 0 0 0, .ptr 5 0 0 0, .ptr 6 0 0 0, .ptr 7 0 0 0], [(1000001, .hold vh []), (2, .box [itsA q] 132), (5, .box [.own 39] 55), (39, .row smE (sgs0 q ((bds k q).take (j + 1))) 104 7), (6, .box (bdE (lsB k q (j + 1))) 216), (7, .box [.bool (fsB (j + 1))] 4)], yl, rfl, trivial⟩
   ·rw [if_neg (by omega)] at hst;apply yf;refine zi [24,25,26,27,28,29,30,31,32,33,34,35,36,37] [0,0,2,0,0,0,48,0,0,496,0,1024,4094,8190,16383,32767] mo ?_;(iterate 6 refine yj ?_);refine zj (zar q (lsB k q j) hb1) ?_;(iterate 2 refine yj ?_);refine zj (zar q (lsB k q (j + 1)) hb2) ?_;(iterate 3 refine yj ?_);refine ChM.step rfl rfl rfl (yT (k := 37) (enc := smE) (l := [⟨(lsB k q j).next, (lsB k q (j + 1)).next, hdI q (lsB k q j), hdI q (lsB k q (j + 1)), (lsB k q (j + 1)).fin, ⟨0, 0⟩⟩]) sl55 zn1 zl1 (by decide) rfl rfl rfl rfl (by decide) (by decide) (fun _ => rfl) rfl) rfl ?_;refine yR ?_;(iterate 2 refine yi ?_);apply yn;refine ya ?_;(iterate 2 refine yi ?_);apply yn;refine yh ?_;refine yk rfl ?_ ?_<;>intro hc4
    ·have htk : (bds k q).take (j + 1) = bds k q := by rw [hfin.1 hc4, List.take_length]
     rw [htk] at hst;apply X.exit;refine ⟨[.ptr 2 0 0 0, .ptr 5 0 0 0, .ptr 6 0 0 0, .ptr 7 0 0 0], [(1000001, .hold vh []), (5, .box [.own 39] 55), (39, .row smE (sgs0 q (bds k q)) 104 7)], yl, ?_⟩;apply yb;refine yh ?_;refine X.ret ?_;refine zlm.mk (ts := [(4, .own 39)]) (.inr rfl) (yl) (.one (.tmp rfl (LeV.eq rfl)))
    apply yf;refine ⟨[.ptr 2 0 0 0, .ptr 5 0 0 0, .ptr 6 0 0 0, .ptr 7 0 0 0], [(1000001, .hold vh []), (2, .box [itsA q] 132), (5, .box [.own 39] 55), (39, .row smE (sgs0 q ((bds k q).take (j + 1))) 104 7), (6, .box (bdE (lsB k q (j + 1))) 216), (7, .box [.bool (fsB (j + 1))] 4)], yl, rfl, trivial⟩
  ·have hst := zoE (k := k) (l := q) hc1;apply yf;apply yb;refine ya ?_;(iterate 2 refine yi ?_);apply yn;refine yh ?_;refine yk rfl ?_ ?_<;>intro hc5
   ·have htk : (bds k q).take (j + 1) = bds k q := by rw [hfin.1 hc5, List.take_length]
    rw [htk] at hst;apply X.exit;refine ⟨[.ptr 2 0 0 0, .ptr 5 0 0 0, .ptr 6 0 0 0, .ptr 7 0 0 0], [(1000001, .hold vh []), (5, .box [.own 39] 55), (39, .row smE (sgs0 q (bds k q)) 104 7)], yl, ?_⟩;apply yb;refine yh ?_;refine X.ret ?_;refine zlm.mk (ts := [(4, .own 39)]) (.inr rfl) (yl) (.one (.tmp rfl (LeV.eq rfl)))
   apply yf;refine ⟨[.ptr 2 0 0 0, .ptr 5 0 0 0, .ptr 6 0 0 0, .ptr 7 0 0 0], [(1000001, .hold vh []), (2, .box [itsA q] 132), (5, .box [.own 39] 55), (39, .row smE (sgs0 q ((bds k q).take (j + 1))) 104 7), (6, .box (bdE (lsB k q (j + 1))) 216), (7, .box [.bool (fsB (j + 1))] 4)], yl, rfl, trivial⟩
 apply yb;refine yh ?_;refine X.ret ?_;refine zlm.mk (ts := [(4, .own 39)]) (.inr rfl) (yl) (.one (.tmp rfl (LeV.eq rfl)))
end Go.Rse
namespace Go.Rse
open Go Go.Proofs
attribute [local irreducible] Pur yK yM Ex X Fn Imp LeV LeB FnO It yW
def lesE (e h : Int) (t d : Tm) : Int := if e = 0 /\ 0 <= h then lsE t d else e
def lesT (e h : Int) (t d : Tm) : Tm := if e = 0 /\ 0 <= h then subV t d else t
theorem zlH {t d : Tm} {h : Int} : (cn1 t h d).2 = lesE 0 h t d /\ ((cn1 t h d).2 = 0 -> (cn1 t h d).1 = lesT 0 h t d) := by
 unfold cn1 lesE lesT;by_cases h0 : h < 0
 ·have n : ¬ ((0 : Int) = 0 /\ 0 <= h) := by omega
  rw [if_pos h0, if_neg n, if_neg n]; exact ⟨rfl, fun _ => rfl⟩
 ·have n : (0 : Int) = 0 /\ 0 <= h := ⟨rfl, by omega⟩;rw [if_neg h0, if_pos n, if_pos n];by_cases h1 : lsE t d = 0
  ·rw [if_pos h1]; exact ⟨h1.symm, fun _ => rfl⟩
  ·rw [if_neg h1]; exact ⟨rfl, fun h => absurd h h1⟩
theorem zqQ {e h : Int} {t d : Tm} (he : ¬ e = 0) : lesE e h t d = e /\ lesT e h t d = t := by
 unfold lesE lesT; rw [if_neg (fun x => he x.1), if_neg (fun x => he x.1)]; exact ⟨rfl, rfl⟩
theorem zqR {l : List Ite} {s : Sgm} (h : (cnA l s).2 = 0) :
 (cnC l s).2 = lesE (lesE (cnA l s).2 s.Left (cnA l s).1 (itg l s.Left).After) s.Right (lesT (cnA l s).2 s.Left (cnA l s).1 (itg l s.Left).After) (itg l s.Right).Before ∧
 ((cnC l s).2 = 0 -> (cnC l s).1 = lesT (lesE (cnA l s).2 s.Left (cnA l s).1 (itg l s.Left).After) s.Right (lesT (cnA l s).2 s.Left (cnA l s).1 (itg l s.Left).After) (itg l s.Right).Before) := by
 have hB : cnB l s = cn1 (cnA l s).1 s.Left (itg l s.Left).After := by unfold cnB; rw [if_pos h]
 have hC : cnC l s = if (cnB l s).2 = 0 then cn1 (cnB l s).1 s.Right (itg l s.Right).Before else (tmZ, (cnB l s).2) := rfl
 rw [hC, hB, h];obtain ⟨a1, a2⟩ := zlH (t := (cnA l s).1) (d := (itg l s.Left).After) (h := s.Left);by_cases h0 : (cn1 (cnA l s).1 s.Left (itg l s.Left).After).2 = 0
 ·rw [if_pos h0, ← a1, h0, ← a2 h0];exact zlH
 ·rw [if_neg h0, ← a1, (zqQ h0).1];exact ⟨rfl, fun h => absurd h h0⟩
theorem znw {u : Tm} {l : List Ite} {s : Sgm} (h : ¬ (cnA l s).2 = 0) : cnE u l s = (cnA l s).2 /\ cnV u l s = tmZ := by
 have hB : cnB l s = (tmZ, (cnA l s).2) := by unfold cnB; rw [if_neg h]
 have hC : cnC l s = (tmZ, (cnA l s).2) := by unfold cnC; rw [hB, if_neg h]
 unfold cnE cnV; rw [hC, if_neg h, if_neg h]; exact ⟨rfl, rfl⟩
theorem znx {u : Tm} {l : List Ite} {s : Sgm} (h : ¬ (cnC l s).2 = 0) : cnE u l s = (cnC l s).2 /\ cnV u l s = tmZ := by
 unfold cnE cnV; rw [if_neg h, if_neg h]; exact ⟨rfl, rfl⟩
theorem zny {u : Tm} {l : List Ite} {s : Sgm} (h : (cnC l s).2 = 0) : cnE u l s = divE (cnC l s).1 u /\ cnV u l s = divV (cnC l s).1 u := by
 unfold cnE cnV; rw [if_pos h, if_pos h]; exact ⟨rfl, rfl⟩
theorem zsx {l : List Ite} {s : Sgm} (hl : ∀ x ∈ l, itF x = 0) : sumE (drL (itR l s)) = (cnA l s).2 /\ sumV (drL (itR l s)) = (cnA l s).1 := by
 have hf : ∀ L : List Tm, (∀ t ∈ L, ckT t = 0) -> yP L = 0 := by
  intro L
  induction L with
  | nil => intro _; rfl
  | cons t r ih => intro h; simp only [yP]; rw [if_pos (h t (by simp))]; exact ih fun x hx => h x (List.mem_cons_of_mem _ hx)
 have h0 : yP (drL (itR l s)) = 0 := hf _ fun t ht => by
  unfold drL itR at ht;obtain ⟨x, hx, rfl⟩ := List.mem_map.1 ht;exact (zfW (hl x (List.mem_of_mem_drop (List.mem_of_mem_take hx)))).2.1
 unfold sumE sumV cnA; rw [if_pos h0, if_pos h0]; exact ⟨rfl, rfl⟩
theorem znz {L : List Ite} {k : Nat} {x : Ite} (h : L[k]? = some x) : drL (L.take k) ++ [x.Dur] = drL (L.take (k + 1)) := by
 unfold drL; rw [List.take_add_one, h, List.map_append]; rfl
theorem zoG {l : List Ite} {s : Sgm} {k : Int} (hs : SgOk k l s) : ((itR l s).length : Int) = s.To - s.From := by
 unfold itR;have := hs.f0; have := hs.ft; have := hs.tl;rw [List.length_take, List.length_drop]; omega
def sgP (u : Tm) (l : List Ite) (L : List Sgm) (n : Nat) : List Sgm := (L.take n).map (segW u l) ++ L.drop n
theorem zsy (u : Tm) (l : List Ite) (L : List Sgm) : L = sgP u l L 0 := rfl
theorem zoH (u : Tm) (l : List Ite) (L : List Sgm) (n : Nat) : (sgP u l L n).length = L.length := by
 unfold sgP; rw [List.length_append, List.length_map, List.length_take, List.length_drop]; omega
theorem zqS {u : Tm} {l : List Ite} {L : List Sgm} {n : Nat} {s : Sgm} (h : L[n]? = some s) : (sgP u l L n)[n]? = some s /\ (sgP u l L n).set n (segW u l s) = sgP u l L (n + 1) := by
 have hn := (List.getElem?_eq_some_iff.1 h).1;have hl : ((L.take n).map (segW u l)).length = n := by rw [List.length_map, List.length_take]; omega
 constructor
 ·unfold sgP; rw [List.getElem?_append_right (by omega), hl, Nat.sub_self, List.getElem?_drop, Nat.add_zero]; exact h
 ·unfold sgP;rw [List.set_append_right _ _ (by omega), hl, Nat.sub_self, List.drop_eq_getElem_cons hn, List.set_cons_zero, List.take_add_one, h];simp
theorem zoI (u : Tm) (l : List Ite) (L : List Sgm) : sgP u l L L.length = L.map (segW u l) := by
 unfold sgP; rw [List.take_length, List.drop_length, List.append_nil]
theorem znA {u : Tm} {l : List Ite} {s : Sgm} (h : ¬ cnE u l s = 0) : segR u l s = cnE u l s := by unfold segR; rw [if_neg h]
attribute [local irreducible] sgP subV subE lsE lesE lesT cnA cnC divE divV sumE sumV
theorem zda (x : Ite) : Fn Tryz.prog 165 [itA x] (tmA x.After) := by
 refine Fn.go Tryz.func165 Tryz.ntmps165 (fun g w d => ?_);apply yb;refine yH ?_;refine yJ ?_;apply yn;iterate 2 refine ya ?_
 refine yi ?_;apply Ex.nil;refine X.ret ?_;refine RetQ.ret (.one (.cellA rfl rfl rfl rfl ty60 (LeV.eq ?_)));all_goals (first | rfl | (simp_all; done))
theorem zdb (x : Ite) : Fn Tryz.prog 166 [itA x] (tmA x.Before) := by
 refine Fn.go Tryz.func166 Tryz.ntmps166 (fun g w d => ?_);apply yb;refine yH ?_;refine yJ ?_;apply yn;iterate 2 refine ya ?_
 refine yi ?_;apply Ex.nil;refine X.ret ?_;refine RetQ.ret (.one (.cellA rfl rfl rfl rfl ty60 (LeV.eq ?_)));all_goals (first | rfl | (simp_all; done))
theorem zbh (l : List Ite) (h e : Int) (t : Tm) (fp : FuncId) (d1 : Ite -> Tm) (hf : ∀ x, Fn Tryz.prog fp [itA x] (tmA (d1 x))) (hh : h < l.length) : FnO Tryz.prog 163 [iv h, .fn fp [], .ptr 2000000 0 0 0, .ptr 2000001 0 0 0, .ptr 2000002 0 0 0] [(2000000, .box [iv e] 28), (2000001, .box (tmE t) 60), (2000002, .box [itsA l] 132)] [2000000, 2000001, 2000002] (.tup []) [(2000000, .box [iv (lesE e h t (d1 (itg l h)))] 28), (2000001, .box (tmE (lesT e h t (d1 (itg l h)))) 60), (2000002, .box [itsA l] 132)] := by
 refine FnO.introX (ts := [(0, iv h), (1, .fn fp []), (2, .ptr 2000000 0 0 0), (3, .ptr 2000001 0 0 0), (4, .ptr 2000002 0 0 0)]) (rv := []) (n := 27) (cs := [.ptr 2000000 0 0 0, .ptr 2000001 0 0 0, .ptr 2000002 0 0 0]) (by kernel_rfl) Tryz.func163 rfl Tryz.ntmps163 rfl rfl (by simp) rfl rfl rfl rfl (fun g w d vs => ?_);apply yd;apply yb;iterate 2 refine ya ?_
 refine ExF.at 2 ?_;refine yC ?_;iterate 2 refine ExF.gi ?_
 refine yA ?_;refine ye ?_;refine yk rfl ?_ ?_<;>intro hc1
 ·have hE : e = lesE e h t (d1 (itg l h)) := by unfold lesE; rw [if_neg (by omega)]
  have hT : t = lesT e h t (d1 (itg l h)) := by unfold lesT; rw [if_neg (by omega)]
  refine X.ret ?_;rw [← hE, ← hT];refine zlC.mk [] [] (.inr rfl) (.many (by decide) .nil);all_goals (rfl)
 have hE : lsE t (d1 (itg l h)) = lesE e h t (d1 (itg l h)) := by unfold lesE; rw [if_pos (by omega)]
 have hT : subV t (d1 (itg l h)) = lesT e h t (d1 (itg l h)) := by unfold lesT; rw [if_pos (by omega)]
 apply yf;apply yd;refine zi [13,14,15,16,17,18,19,20,21,22,23,24] [0,0,0,4,0,28,60,126,255,511,1023,1023,2047,8191] mo ?_;iterate 7 refine yj ?_
 refine zj (hf (itg l h)) ?_;refine zj (zcW t (d1 (itg l h))) ?_;iterate 3 refine yj ?_
 refine ChM.lt 11 ?_ ?_
 ·iterate 2 refine yi ?_
  apply yn;refine yh ?_;refine yk rfl ?_ ?_<;>intro hc2
  ·have h14 : (14 : Int) = lesE e h t (d1 (itg l h)) := by rw [← hE]; unfold lsE; rw [if_pos hc2]
   apply yc;refine yi ?_;apply Ex.nil;rw [← h14, ← hT];refine zlC.mk [] [] (.inl rfl) (.many (by decide) .nil);all_goals (rfl)
  ·have h14 : subE t (d1 (itg l h)) = lesE e h t (d1 (itg l h)) := by rw [← hE]; unfold lsE; rw [if_neg hc2]
   apply yf;rw [← h14, ← hT];refine zlC.mk [] [] (.inl rfl) (.many (by decide) .nil);all_goals (rfl)
 ·refine yi ?_;refine ya ?_;refine yi ?_;apply yn;refine yh ?_;refine yk rfl ?_ ?_<;>intro hc3
  ·have h14 : (14 : Int) = lesE e h t (d1 (itg l h)) := by rw [← hE]; unfold lsE; rw [if_pos hc3]
   apply yc;refine yi ?_;apply Ex.nil;rw [← h14, ← hT];refine zlC.mk [] [] (.inl rfl) (.many (by decide) .nil);all_goals (rfl)
  ·have h14 : subE t (d1 (itg l h)) = lesE e h t (d1 (itg l h)) := by rw [← hE]; unfold lsE; rw [if_neg hc3]
   apply yf;rw [← h14, ← hT];refine zlC.mk [] [] (.inl rfl) (.many (by decide) .nil);all_goals (rfl)
set_option maxHeartbeats 4000000 in
theorem zd7 (l : List Ite) (s : Sgm) (u : Tm) (k : Int) (hs : SgOk k l s) (hP : ∀ x ∈ l, itF x = 0) (hl : l.length <= 1000000) : Fn Tryz.prog 93 [.agg [itsA l], smA s, tmA u] (.tup [tmA (cnV u l s), iv (cnE u l s)]) := by
 have f0 := hs.f0;have ft := hs.ft;have tl := hs.tl;have hrl := zoG hs;have hsm := zsx (s := s) hP;have hlf : s.Left < l.length := by rcases hs.lf with h | h <;> omega
 have hrt : s.Right < l.length := by rcases hs.rt with h | h <;> omega
 have hSum : Fn Tryz.prog 59 [tmsA (drL ((itR l s).take (itR l s).length))] (.tup [tmA (cnA l s).1, iv (cnA l s).2]) := by
  rw [List.take_length, ← hsm.1, ← hsm.2]; exact zks (drL (itR l s)) (by unfold drL; rw [List.length_map]; omega)
 have hd0 : [] = drL ((itR l s).take 0) := by rw [List.take_zero]; rfl
 refine Fn.go Tryz.func93 Tryz.ntmps93 (fun g w d => ?_);apply yb;iterate 3 refine yH ?_
 refine yJ ?_;refine ya ?_;apply yn;refine ye ?_;iterate 2 apply yd
 refine y3 (yZ tmE 60 2 8 200 rfl rfl) ?_;apply yc;iterate 6 refine ya ?_
 refine zbr (zcv rfl rfl rfl sl24 ty62 (fun _ => rfl) (by omega) (by omega) (by omega)) rfl ?_;refine yh ?_;apply X.block;refine y9 (ι := Nat) (fun (n : Nat) => [(3, .ptr 3 0 0 0), (4, .ptr 4 0 0 0), (5, .ptr 5 0 0 0), (6, .ptr 6 0 0 0), (8, .own 200), (20, itsA (itR l s)), (21, iv (itR l s).length), (22, iv (n : Int))]) (fun (n : Nat) => [(3, .box [itsA l] 132), (4, .box (smE s) 104), (5, .box (tmE u) 60), (6, .box [iv 0, iv 0] 60), (200, .row tmE (drL ((itR l s).take n)) 60 2)]) (fun (n : Nat) => n <= (itR l s).length) (fun (n : Nat) => (itR l s).length - n) 0 (fun n hk => ?_);apply yb;refine ye ?_;apply yd;refine yk rfl ?_ ?_<;>intro hc1
 ·obtain ⟨x, hx⟩ : ∃ x, (itR l s)[n]? = some x := ⟨_, lgg (by omega)⟩;have hx2 : (itR l s)[(n : Int).toNat]? = some x := by simpa using hx
  have hst := znz hx;have hdl : (drL ((itR l s).take n)).length <= 1000000 := by unfold drL; simp; omega
  apply yf;apply yd;apply X.block;apply yb;iterate 2 refine ya ?_
  refine yJ ?_;refine yi ?_;apply Ex.nil;apply yc;iterate 3 refine ya ?_
  refine yO tmE [⟨_, _⟩] ?_;refine yi ?_;refine ye ?_;apply yc;refine yh ?_;refine yL (n + 1)
 ·have hn : n = (itR l s).length := by omega
  subst hn;apply X.exit;apply yd;refine y3 (Imp.freeze (k := 200) rfl) ?_;apply yc;refine ya ?_;refine yr hSum ?_;iterate 3 refine ya ?_
  iterate 2 refine yJ ?_
  iterate 2 refine yi ?_
  apply Ex.nil;apply yd;apply yb;refine yh ?_;refine yk rfl ?_ ?_<;>intro hc2
  ·have hE := (znw (u := u) hc2).1;have hV := (znw (u := u) hc2).2;apply yd;refine zi [39,40] [0,0,1,7] mo ?_;(iterate 2 refine yj ?_);refine ChM.lt 1 ?_ ?_
   ·refine yi ?_;refine ye ?_;refine X.ret ?_;refine yF ty60 ?_ ?_;all_goals (first | (rw [hE]; done) | (rw [hV]; rfl) | (rw [hE]; rfl) | (rw [hV]; done))
   ·refine yi ?_;refine yh ?_;refine X.ret ?_;refine yF ty60 ?_ ?_;all_goals (first | (rw [hE]; done) | (rw [hV]; rfl) | (rw [hE]; rfl) | (rw [hV]; done))
  have hcl := zqR hc2;apply yf;apply yb;iterate 2 refine ya ?_
  apply yn;iterate 3 refine ya ?_
  refine zap [(2000000, 12), (2000001, 11), (2000002, 3)] (zbh l s.Left (cnA l s).2 (cnA l s).1 165 (fun x => x.After) zda hlf) ?_;apply yn;iterate 3 refine ya ?_
  refine zap [(2000000, 12), (2000001, 11), (2000002, 3)] (zbh l s.Right (lesE (cnA l s).2 s.Left (cnA l s).1 (itg l s.Left).After) (lesT (cnA l s).2 s.Left (cnA l s).1 (itg l s.Left).After) 166 (fun x => x.Before) zdb hrt) ?_;apply Ex.nil;apply yd;apply yb;refine yh ?_;refine yk rfl ?_ ?_<;>intro hc3
  ·have h0 : ¬ (cnC l s).2 = 0 := by rw [hcl.1]; exact hc3
   have hE := (znx (u := u) h0).1;have hV := (znx (u := u) h0).2;rw [hcl.1] at hE;apply yd;refine zi [52,53] [0,0,1,7] mo ?_;(iterate 2 refine yj ?_);refine ChM.lt 1 ?_ ?_
   ·refine yi ?_;refine ye ?_;refine X.ret ?_;refine yF ty60 ?_ ?_;all_goals (first | (rw [hE]; done) | (rw [hV]; rfl) | (rw [hE]; rfl) | (rw [hV]; done))
   ·refine yi ?_;refine yh ?_;refine X.ret ?_;refine yF ty60 ?_ ?_;all_goals (first | (rw [hE]; done) | (rw [hV]; rfl) | (rw [hE]; rfl) | (rw [hV]; done))
  have h0 : (cnC l s).2 = 0 := by rw [hcl.1]; exact hc3
  have hE := (zny (u := u) h0).1;have hV := (zny (u := u) h0).2;rw [hcl.2 h0] at hE hV;apply yf;apply yb;iterate 2 refine ya ?_
  refine yr (zkO (lesT (lesE (cnA l s).2 s.Left (cnA l s).1 (itg l s.Left).After) s.Right (lesT (cnA l s).2 s.Left (cnA l s).1 (itg l s.Left).After) (itg l s.Right).Before) u) ?_;iterate 2 refine ya ?_
  refine yi ?_;refine ye ?_;refine X.ret ?_;refine yF ty60 ?_ ?_;all_goals (first | (rw [hE]; done) | (rw [hV]; rfl) | (rw [hE]; rfl) | (rw [hV]; done))
set_option maxHeartbeats 4000000 in
theorem zbt (m : Mn) (k : Int) (l : List Ite) (h0 : -9223372036854775808 <= k) (h1 : k <= 9223372036854775807) (hl : l.length <= 1000000) : Fn Tryz.prog 35 [mnA m, iv k, itsA l] (.tup [smsA (segV m k l), iv (segE m k l)]) := by
 have hok := ziW k l;have hq0 := zsy (unT m k) l (sgs0 l (bds k l));have hbl := znu k l (bds k l).length;rw [List.take_length] at hbl;refine Fn.go Tryz.func35 Tryz.ntmps35 (fun g w d => ?_);apply yb;refine yH ?_;iterate 2 refine ya ?_
 apply yn;iterate 2 refine ya ?_
 refine yr (zfD m k h0 h1) ?_;iterate 3 refine ya ?_
 refine yJ ?_;refine yi ?_;refine ye ?_;apply yd;apply yb;refine yh ?_;refine yk rfl ?_ ?_<;>intro hc1
 ·have hE : segE m k l = unE m k := by unfold segE; rw [if_neg hc1]
  have hV : [] = segV m k l := by unfold segV; rw [if_neg (by rw [hE]; exact hc1)]
  apply yb;refine yp ?_;refine X.ret ?_;refine yu (yl (ts := [(6, smsA []), (7, iv (unE m k))]) (hs := [])) ?_;refine yz ?_ ?_;all_goals (first | (rw [← hV]; done) | (rw [hE]; done) | exact congrArg (fun z => smsA z) hV | (rw [← hV]; rfl) | (rw [hE]; rfl))
 have hU : unE m k = 0 := hc1;apply yf;apply yd;apply yb;refine ya ?_;refine yr (zeJ l (by omega)) ?_;iterate 5 refine ya ?_
 apply yn;refine yh ?_;refine yk rfl ?_ ?_<;>intro hc2
 ·have hE : segE m k l = ckIE l := by unfold segE; rw [if_pos hU, if_neg hc2]
  have hV : [] = segV m k l := by unfold segV; rw [if_neg (by rw [hE]; exact hc2)]
  apply yb;refine yp ?_;refine X.ret ?_;refine yu (yl (ts := [(6, smsA []), (7, iv (ckIE l))]) (hs := [])) ?_;refine yz ?_ ?_;all_goals (first | (rw [← hV]; done) | (rw [hE]; done) | exact congrArg (fun z => smsA z) hV | (rw [← hV]; rfl) | (rw [hE]; rfl))
 have hK : ckIE l = 0 := hc2;have hP := zb2 hK;have hEE : segE m k l = segX (unT m k) l (sgs0 l (bds k l)) := by unfold segE; rw [if_pos hU, if_pos hK]
 apply yf;apply yb;iterate 2 refine ya ?_
 refine yJ ?_;refine yi ?_;apply yn;iterate 2 refine ya ?_
 refine zap [(39, 39)] (zds l k hl) ?_;refine ye ?_;apply yd;apply yb;refine yp ?_;apply X.block
 refine y9 (ι := Nat) (fun (n : Nat) => [(8, .ptr 8 0 0 0), (12, .ptr 12 0 0 0), (13, .own 39), (40, iv (sgs0 l (bds k l)).length), (41, iv (n : Int))]) (fun (n : Nat) => [(8, .box (tmE (unT m k)) 60), (12, .box [itsA l] 132), (39, .row smE (sgP (unT m k) l (sgs0 l (bds k l)) n) 104 7)]) (fun (n : Nat) => n <= (sgs0 l (bds k l)).length /\ segX (unT m k) l (sgs0 l (bds k l)) = segX (unT m k) l ((sgs0 l (bds k l)).drop n)) (fun (n : Nat) => (sgs0 l (bds k l)).length - n) 0 (fun n hk => ?_) (hJ := by
  exact ⟨by omega, rfl⟩) (h0 := by
  exact yx)
 obtain ⟨hk1, hk2⟩ := hk;apply yb;refine ye ?_;apply yd;refine yk rfl ?_ ?_<;>intro hc3
 ·obtain ⟨s, hs⟩ : ∃ s, (sgs0 l (bds k l))[n]? = some s := ⟨_, lgg (by omega)⟩;have hso := hok.all s (List.mem_of_getElem? hs);have hpl := zoH (unT m k) l (sgs0 l (bds k l)) n;have hsa := zqS (u := unT m k) (l := l) hs;have hsn := hsa.1;have hst := hsa.2;have hsn2 : (sgP (unT m k) l (sgs0 l (bds k l)) n)[(n : Int).toNat]? = some s := by simpa using hsn
  apply yf;apply yd;apply X.block;apply yb;refine yh ?_;apply yd;refine zi [15,44,45,46,47,48,49,50,51,52,53] [0,0,0,6,14,0,63,127,255,255,0,1535,4095] mo ?_;iterate 4 refine yj ?_
  refine yj ?_ (hs := by exact zht rfl rfl hsn2 rfl rfl TyK.h);refine yj ?_;refine zj (zd7 l s (unT m k) k hso hP hl) ?_;iterate 3 refine yj ?_
  refine ChM.step rfl rfl rfl (zA (k := 15) zc60) rfl ?_;refine zbe 9 ⟨[(8, .ptr 8 0 0 0), (12, .ptr 12 0 0 0), (13, .own 39), (40, iv (sgs0 l (bds k l)).length), (41, iv (n : Int)), (14, iv (n : Int)), (15, .ptr 15 0 0 0), (16, iv (cnE (unT m k) l s))], [(8, .box (tmE (unT m k)) 60), (12, .box [itsA l] 132), (39, .row smE (sgP (unT m k) l (sgs0 l (bds k l)) n) 104 7), (15, .box (tmE (cnV (unT m k) l s)) 60)]⟩ (fun Q hQ => ?_) (fun Q hQ => ?_) ?_
  ·refine yi ?_;refine ya ?_;exact ze yx hQ
  ·refine yi ?_;(iterate 2 refine ya ?_);exact ze yx hQ
  apply Ex.nil;apply yd;apply yb;refine yh ?_;refine yk rfl ?_ ?_<;>intro hc4
  ·have hR := znA hc4;have hE : segE m k l = cnE (unT m k) l s := by rw [hEE, hk2, zcI hs, hR, if_neg hc4]
   have hV : [] = segV m k l := by unfold segV; rw [if_neg (by rw [hE]; exact hc4)]
   apply yb;refine yp ?_;refine X.ret ?_;refine yu (yl (ts := [(6, smsA []), (7, iv (cnE (unT m k) l s))]) (hs := [])) ?_;refine yz ?_ ?_;all_goals (first | (rw [← hV]; done) | (rw [hE]; done) | exact congrArg (fun z => smsA z) hV | (rw [← hV]; rfl) | (rw [hE]; rfl))
  have hcE : cnE (unT m k) l s = 0 := hc4;apply yf;apply yd;apply yb;iterate 6 refine ya ?_
  refine ExF.at 6 ?_;refine yC ?_;iterate 3 refine ExF.gi ?_
  refine yA ?_;refine ye ?_;refine yk rfl ?_ ?_<;>intro hc5
  ·have hR : segR (unT m k) l s = 14 := by unfold segR; rw [if_pos hcE, if_pos hc5]
   have hE : segE m k l = 14 := by rw [hEE, hk2, zcI hs, hR, if_neg (by decide)]
   have hV : [] = segV m k l := by unfold segV; rw [if_neg (by rw [hE]; decide)]
   apply yb;refine yh ?_;refine X.ret ?_;refine yu (yl (ts := [(6, smsA []), (7, iv 14)]) (hs := [])) ?_;refine yz ?_ ?_;all_goals (first | (rw [← hV]; done) | (rw [hE]; done) | exact congrArg (fun z => smsA z) hV | (rw [← hV]; rfl) | (rw [hE]; rfl))
  have hR : segR (unT m k) l s = 0 := by unfold segR; rw [if_pos hcE, if_neg (by intro hh; rcases hc5 with h | h; (rw [hh.1] at h; cases h); exact hh.2 h)]
  apply yf;apply yc;iterate 5 refine ya ?_
  refine yi (hs := zf (n := 2) s (segW (unT m k) l s) rfl rfl hsn (fun _ => rfl) (by decide) rfl rfl rfl (by decide) rfl rfl rfl TyK.h) ?_;apply Ex.nil;apply yc;refine yh ?_
  refine yL (n + 1) (hJ := by
   exact ⟨by omega, by rw [hk2, zcI hs, if_pos hR]⟩) (hI := yx)
 ·have hn : n = (sgs0 l (bds k l)).length := by omega
  subst hn;have hE : segE m k l = 0 := by rw [hEE, hk2, List.drop_length]; rfl
  have hV : sgP (unT m k) l (sgs0 l (bds k l)) (sgs0 l (bds k l)).length = segV m k l := by unfold segV; rw [if_pos hE, zoI]
  apply X.exit;apply yb;refine yp ?_;refine X.ret ?_;refine yu (Imp.freeze (k := 39) rfl) ?_;refine yz ?_ ?_;all_goals (first | (rw [← hV]; done) | (rw [hE]; done) | exact congrArg (fun z => smsA z) hV | (rw [← hV]; rfl) | (rw [hE]; rfl))
end Go.Rse
