/-
  Plain.
-/
import Derived.Test.YtbopkhoalndflaaGreatDoorVJWri3
set_option linter.all false
namespace Go.Rse
open Go Go.Proofs Go.Proofs.Tryz
section
def zvG {a b : Int} (h : ∀ g : Nat, (g : Int) ∣ a -> (g : Int) ∣ b -> g = 1) : gI a b = 1 := by
 simp_all [uQ, xB, vH, gI]
def znD {X Y : Int} (h : gI X Y = 1) (h0 : 0 <= X) (Z : 1 <= Y) (hX : X <= 1099511627776) (V : Y <= 1048576) : tmkE X Y = 0 /\ tmkT X Y = ⟨X, Y⟩ /\ ckT ⟨X, Y⟩ = 0 := by
 grind [tmkE, tmkT, ckT]
theorem zqf {X Y : Int} (h0 : 0 <= X) (E : 1 <= Y) (h : tmkE X Y = 0) : ckT (tmkT X Y) = 0 := by
 have hT : tmkT X Y = ⟨X / gI X Y, Y / gI X Y⟩ := by unfold tmkT; rw [j4 h]
 have V := zcM (n := X) (d := Y) (by omega);have gx : gI X Y ∣ X := uQ.2 (xB _ _);have gy : gI X Y ∣ Y := uQ.2 (vH _ _);have ex := xC gx;have ey := xC gy;have T : 0 <= X / gI X Y := wQ h0 (by omega)
 have Q : 0 < Y / gI X Y := by
  apply wP;intro hn;have := v7 (show Y / gI X Y <= 0 by omega) (u6 V);omega
 have U : gI (X / gI X Y) (Y / gI X Y) = 1 := zvG fun d N J => by
  obtain ⟨a, I⟩ := N;obtain ⟨b, H⟩ := J;have ea := ex; rw [I] at ea;have eb := ey; rw [H] at eb;have d1 : ((Nat.gcd X.natAbs Y.natAbs * d : Nat) : Int) ∣ X := ⟨a, ea.symm.trans (by rw [Int.natCast_mul, Int.mul_assoc]; rfl)⟩;have d2 : ((Nat.gcd X.natAbs Y.natAbs * d : Nat) : Int) ∣ Y := ⟨b, eb.symm.trans (by rw [Int.natCast_mul, Int.mul_assoc]; rfl)⟩;have d3 := Nat.dvd_gcd (uQ.1 d1) (uQ.1 d2);have Z : 0 < Nat.gcd X.natAbs Y.natAbs := by unfold gI at V; omega
  obtain ⟨q, G⟩ := d3;have : d * q = 1 := Nat.eq_of_mul_eq_mul_left Z (by rw [← Nat.mul_assoc, ← G, Nat.mul_one]);exact Nat.eq_one_of_mul_eq_one_right this
 grind [tmkE, ckT]
def zsd {a b c d : Nat} (Z : 0 < b) (V : 0 < d) (U : Nat.gcd a b = 1) (T : Nat.gcd c d = 1) : Nat.gcd (a / Nat.gcd a d * (c / Nat.gcd c b)) (b / Nat.gcd c b * (d / Nat.gcd a d)) = 1 := by
 have gad := vP a V;have gcb := vP c Z;have da := vU (xB a d);have dd := vU (vH a d);have dc := vU (xB c b);have db := vU (vH c b);have x1 : Nat.Coprime (a / Nat.gcd a d) (b / Nat.gcd c b) := (Nat.Coprime.coprime_dvd_left da U).coprime_dvd_right db;have x2 : Nat.Coprime (a / Nat.gcd a d) (d / Nat.gcd a d) := Nat.coprime_div_gcd_div_gcd gad;have x3 : Nat.Coprime (c / Nat.gcd c b) (b / Nat.gcd c b) := Nat.coprime_div_gcd_div_gcd gcb;have x4 : Nat.Coprime (c / Nat.gcd c b) (d / Nat.gcd a d) := (Nat.Coprime.coprime_dvd_left dc T).coprime_dvd_right dd
 grind [Nat.Coprime.mul_left, Nat.Coprime.mul_right]
def zmD (a b : Nat) : gI (a : Int) (b : Int) = (Nat.gcd a b : Nat) := rfl
def zse {a b c d : Int} (h0 : 0 <= a) (V : 1 <= b) (Z : 0 <= c) (U : 1 <= d) (g1 : gI a b = 1) (g2 : gI c d = 1) :
 gI (a / gI a d * (c / gI c b)) (b / gI c b * (d / gI a d)) = 1 := by
 obtain ⟨a, rfl⟩ := u0 h0;obtain ⟨b, rfl⟩ := u0 (show 0 <= b by omega);obtain ⟨c, rfl⟩ := u0 Z;obtain ⟨d, rfl⟩ := u0 (show 0 <= d by omega);rw [zmD] at g1 g2 ⊢;rw [zmD];simp only [← Int.natCast_ediv, ← Int.natCast_mul];rw [zmD, zsd (by omega) (by omega) (by omega) (by omega)]; rfl
def zsf {a b : Tm} (Z : ckT a = 0) (V : ckT b = 0) : yI [a, b] = 0 := by simp [yI, Z, V]
def zsg {a b : Tm} (h : addE a b = 0) : ckT a = 0 /\ ckT b = 0 /\ ckT (addV a b) = 0 := by
 unfold addE at h;split at h
 ·rename_i hf;obtain ⟨Z, V⟩ := zbX hf;have b1 := zaj Z;have b2 := zaj V;refine ⟨Z, V, ?_⟩;unfold addV;rw [j4 hf];have m1 := v6 b1.1 b2.2.2.1;have m2 := v6 b2.1 b1.2.2.1;exact zqf (by omega) (mulP b1.2.2.2.2.1 b2.2.2.2.2.1) h
 omega
def zsh {a b : Tm} (h : subE a b = 0) : ckT a = 0 /\ ckT b = 0 /\ ckT (subV a b) = 0 := by
 grind [subE, zbX, subV, tmkE, zqf, mulP, ckT]
theorem zx0 {a : Tm} (h : ckT a = 0) : subE a ⟨0, 1⟩ = 0 /\ subV a ⟨0, 1⟩ = a := by
 have b := zaj h;have Z : ckT ⟨0, 1⟩ = 0 := by decide +kernel
 simp_all [znD, subE, subV, zsf]
end
section
def zvH {a b c d : Int} (h0 : 0 <= a) (Q : 1 <= b) (N : 0 <= c) (J : 1 <= d) (g1 : gI a b = 1) (g2 : gI c d = 1) : rtsE a b c d = tmsE a b c d /\ rtsV a b c d = tmsV a b c d := by
 have U := zse h0 Q N J g1 g2
 have p : ∀ x y : Int, 1 <= y -> 1 <= y / gI x y := fun x y hy => by
  have U := zcM (n := x) (d := y) (by omega);have gy : gI x y ∣ y := uQ.2 (vH _ _);have ey := xC gy;apply wP;intro I;have := v7 (show y / gI x y <= 0 by omega) (u6 U);omega
 have pb := p c b Q;have pd := p a d J;have pa : 0 <= a / gI a d := wQ h0 (zun _ _);have pc : 0 <= c / gI c b := wQ N (zun _ _);unfold rtsV rtsE tmsE tmsV;generalize a / gI a d = A at *
 generalize c / gI c b = Y at *
 generalize b / gI c b = B at *
 generalize d / gI a d = E at *
 have I : 0 <= A * Y := v6 pa pc;have hd : 1 <= B * E := mulP pb pd
 have q1 : (0 < E /\ 1048576 / E < B) ↔ 1048576 < B * E := by
  constructor
  ·rintro ⟨x, y⟩
   apply wP;intro H;have := (Int.le_ediv_iff_mul_le x (a := B) (b := 1048576)).2 (by omega);omega
  ·intro H;refine ⟨by omega, Int.ediv_lt_of_lt_mul (by omega) H⟩
 have T : bigQ A B Y E ↔ ((0 < A /\ 1099511627776 / A < Y) \/ 1048576 < B * E) := by unfold bigQ; rw [q1]
 by_cases Z : (0 < A /\ 1099511627776 / A < Y) \/ 1048576 < B * E
 ·rw [j4 Z, j4 (T.2 Z), j4 (T.2 Z), j3 (by decide)];exact ⟨rfl, rfl⟩
 ·have V : ¬ bigQ A B Y E := fun h => Z (T.1 h)
  have hA : A * Y <= 1099511627776 := by
   by_cases G : 0 < A
   ·exact zeY G (by decide) (fun h => Z (.inl ⟨G, h⟩))
   ·rw [show A = 0 by omega, Int.zero_mul]; decide
  obtain ⟨k1, k2, k3⟩ := znD U I hd hA (by omega);rw [j3 Z, j3 V, j3 V, j4 rfl];exact ⟨k1.symm, k2.symm⟩
attribute [local irreducible] Pur yu yq Ex X Fn Imp LeV LeB FnO It yD
attribute [local irreducible] gI
def zmE (a b : Tm) : Fn prog 352 [tmA a, tmA b] (.tup [tmA (divV a b), iv (divE a b)]) := by
 refine xV func352 ntmps352 (fun g w d => ?_);refine gq ?_;refine yz tmE [⟨_, _⟩, ⟨_, _⟩] ?_;refine kG (xP (k := 9) rfl) ?_;refine gc (zat [a, b] (by simp)) ?_;refine gd ?_ ?_<;>intro Z
 ·have hE : divE a b = yI [a, b] := by unfold divE; rw [j3 Z]
  have U : divV a b = tmZ := by unfold divV; rw [j3 Z]
  refine gq ?_;refine yx ty83 ?_ ?_;all_goals (first | exact zE hE | exact zE U)
 have T := zbX Z;have b1 := zaj T.1;have b2 := zaj T.2;refine gd ?_ ?_<;>intro V
 ·have hE : divE a b = 5 := by unfold divE; rw [j4 Z, j4 V]
  have U : divV a b = tmZ := by unfold divV; rw [j4 Z, j4 V]
  refine gq ?_;refine yx ty83 ?_ ?_;all_goals (first | exact zE hE | exact zE U)
 have hE : divE a b = tmsE a.N a.D b.D b.N := by unfold divE; rw [j4 Z, j3 V]
 have U : divV a b = tmsV a.N a.D b.D b.N := by unfold divV; rw [j4 Z, j3 V]
 refine gc (zgs a.N a.D b.D b.N b1.1 b1.2.1 b1.2.2.2.2.1 (by omega) (by omega) (by omega) (by omega) (by omega)) ?_;refine yx ty83 ?_ ?_;all_goals (first | exact zE hE | exact zE U)
def zaD (a b : Tm) : Fn prog 341 [tmA a, tmA b] (.tup [tmA (divV a b), iv (divE a b)]) := by
 refine xV func341 ntmps341 (fun g w d => ?_);refine gc (zQ a b) ?_;refine gd ?_ ?_<;>intro Z
 ·have hE : divE a b = yI [a, b] := by unfold divE; rw [j3 Z]
  have U : divV a b = tmZ := by unfold divV; rw [j3 Z]
  refine gq ?_;refine yx ty83 ?_ ?_;all_goals (first | exact zE hE | exact zE U)
 have T := zbX Z;have b1 := zaj T.1;have b2 := zaj T.2;refine gd ?_ ?_<;>intro V
 ·have hE : divE a b = 5 := by unfold divE; rw [j4 Z, j4 V]
  have U : divV a b = tmZ := by unfold divV; rw [j4 Z, j4 V]
  refine gq ?_;refine yx ty83 ?_ ?_;all_goals (first | exact zE hE | exact zE U)
 have hE : divE a b = tmsE a.N a.D b.D b.N := by unfold divE; rw [j4 Z, j3 V]
 have U : divV a b = tmsV a.N a.D b.D b.N := by unfold divV; rw [j4 Z, j3 V]
 have hr := zvH (a := a.N) (b := a.D) (c := b.D) (d := b.N) b1.1 b1.2.2.2.2.1 (by omega) (by omega) b1.2.2.2.2.2 (by have Q := b2.2.2.2.2.2; unfold gI at *; rw [Nat.gcd_comm]; exact Q);rw [← hr.1] at hE;rw [← hr.2] at U;refine gc (zcj a.N a.D b.D b.N b1.1 b1.2.1 b1.2.2.2.2.1 (by omega) (by omega) (by omega) (by omega) (by omega)) ?_;refine yx ty83 ?_ ?_;all_goals (first | exact zE hE | exact zE U)
end
section
attribute [local irreducible] Pur yu yq Ex X Fn Imp LeV LeB FnO It yD
def zg1 (m : Mn) (k : Int) : k ∈ perfL m ↔ (1 <= k /\ k <= 4 /\ m.p k = 3) := by
 unfold perfL;simp only [wR, jX, List.not_mem_nil, or_false, wA];constructor
 ·rintro ⟨V, Z⟩; exact ⟨by omega, by omega, Z⟩
 ·rintro ⟨V, Z, U⟩; exact ⟨by omega, U⟩
def zlR (x : Ite) {j : Nat} {t : Tm} (h : (itT x)[j]? = some t) : (([iv x.Dur.N, iv x.Dur.D, iv x.Before.N, iv x.Before.D, iv x.After.N, iv x.After.D] : List AV).drop ((j : Int).toNat * 2)).take 2 = tmE t := by
 have Z : j < 3 := (j1.1 h).1;have : j = 0 \/ j = 1 \/ j = 2 := by omega
 rcases this with rfl | rfl | rfl <;> (injection h with h; subst h; rfl)
attribute [local irreducible] ckT yI perfL
set_option maxHeartbeats 1000000 in
def zfo (l : List Ite) (hl : l.length <= 4000000) : Fn prog 191 [itsA l] (.tup [iv (ckIE l), iv (ckIX l 0)]) := by
 refine xV func191 ntmps191 (fun g w d => ?_);apply ye;refine yL ?_;apply yg;apply ye;refine yy ?_;apply xS;refine zX (fun k => [(9, itsA l), (10, iv l.length), (11, iv (k : Int))]) (fun k => []) (fun k => k <= l.length /\ ckIE l = ckIE (l.drop k) /\ ckIX l 0 = ckIX (l.drop k) (k : Int)) l.length (fun k H => ?_) (hJ := by exact ⟨by omega, rfl, rfl⟩) (h0 := yd);obtain ⟨xT, Z, V⟩ := H;refine gd ?_ ?_<;>intro x4
 ·obtain ⟨x, hx⟩ : ∃ x, l[k]? = some x := ⟨_, lgg (by omega)⟩;have x3 : l[(k : Int).toNat]? = some x := by simpa using hx
  apply yl;apply yg;apply xS;apply ye;iterate 3 refine ya ?_
  refine zh ?_;refine ya ?_;refine xY ?_;apply k9;apply yg;apply ye;iterate 3 refine ya ?_
  refine xX 3 ?_;refine ym ?_;iterate 3 refine xW ?_
  iterate 2 refine ym ?_
  iterate 3 refine xW ?_
  iterate 2 refine ym ?_
  iterate 3 refine xW ?_
  refine gf ?_ ?_<;>intro x2
  ·have U : itF x = 2 := by unfold itF; rw [j4 (by unfold itRg; omega)]
   have hE : ckIE l = 2 := by rw [Z, zbn hx, U, j3 (by decide)]
   have hX : ckIX l 0 = (k : Int) := by rw [V, zbo _ hx, U, j3 (by decide)]
   refine gq ?_;refine yj ?_ ?_;all_goals (first | exact zE hE | exact zE hX)
  have G : ¬ itRg x := by unfold itRg; omega
  have hT : (itT x).length = 3 := rfl;apply yl;apply yg;apply ye;iterate 7 refine ya ?_
  refine yh ?_;apply xS;refine zX (fun j => [(9, itsA l), (10, iv l.length), (11, iv (k : Int)), (4, iv (k : Int)), (5, .ptr 5 0 0 0), (41, .agg [iv x.Dur.N, iv x.Dur.D, iv x.Before.N, iv x.Before.D, iv x.After.N, iv x.After.D]), (42, iv (j : Int))]) (fun j => [(5, .box (itE x) 183)]) (fun j => j <= 3 /\ yI (itT x) = yI ((itT x).drop j)) 3 (fun j H => ?_) (hJ := by exact ⟨by omega, rfl⟩) (h0 := yd);obtain ⟨x1, Q⟩ := H;refine gd ?_ ?_<;>intro x0
  ·obtain ⟨t, ht⟩ : ∃ t, (itT x)[j]? = some t := ⟨_, lgg (show j < (itT x).length by simp; omega)⟩;have E := zlR x ht;have w2 : (itT x)[(j : Int).toNat]? = some t := by simpa using ht
   apply yl;apply yg;apply xS;apply ye;refine ya (hs := by exact zz ArK.h TyK.h rfl rfl (by omega) (by omega) E) ?_;refine gc (zco t) ?_;refine gd ?_ ?_<;>intro T
   ·have hf : yI (itT x) = ckT t := by rw [Q, zbm ht, j3 T]
    have U : itF x = ckT t := by unfold itF; rw [j3 G, hf, j3 T]
    have hE : ckIE l = ckT t := by rw [Z, zbn hx, U, j3 T]
    have hX : ckIX l 0 = (k : Int) := by rw [V, zbo _ hx, U, j3 T]
    refine gq ?_;refine yj ?_ ?_;all_goals (first | exact zE hE | exact zE hX)
   refine gq ?_;refine yw (j + 1) (hJ := by exact ⟨by omega, by rw [Q, zbm ht, j4 T]⟩)
  ·have hf : yI (itT x) = 0 := by rw [Q, w4 (by simp; omega)]; unfold yI; rfl
   apply k8;apply ye;(iterate 2 refine ya ?_);refine xX 2 ?_;refine ym ?_;(iterate 2 refine xW ?_);(iterate 2 refine ym ?_);(iterate 11 refine xW ?_);refine gf ?_ ?_<;>intro J
   ·have U : itF x = 8 := by unfold itF; rw [j3 G, j4 hf, j4 (by unfold itKd; revert J; cases x.Rest <;> cases x.Color <;> cases x.Fixed <;> simp)]
    have hE : ckIE l = 8 := by rw [Z, zbn hx, U, j3 (by decide)]
    have hX : ckIX l 0 = (k : Int) := by rw [V, zbo _ hx, U, j3 (by decide)]
    refine gq ?_;refine yj ?_ ?_;all_goals (first | exact zE hE | exact zE hX)
   have U : itF x = 0 := by unfold itF; rw [j3 G, j4 hf, j3 (by unfold itKd; revert J; cases x.Rest <;> cases x.Color <;> cases x.Fixed <;> simp)]
   refine gq ?_;refine yw (k + 1) (hJ := by exact ⟨by omega, by rw [Z, zbn hx, j4 U], by rw [V, zbo _ hx, j4 U]; rfl⟩)
 ·have I : k = l.length := by omega
  have hE : ckIE l = 0 := by rw [Z, I, wS]; rfl
  have hX : ckIX l 0 = 0 := by rw [V, I, wS]; rfl
  refine gq ?_;refine yj ?_ ?_;all_goals (first | exact zE hE | exact zE hX)
set_option maxHeartbeats 1000000 in
def zci (l : List Ite) (hl : l.length <= 4000000) : Fn prog 243 [itsA l] (.tup [iv (ckIE l), iv (ckIX l 0)]) := by
 refine xV func243 ntmps243 (fun g w d => ?_);apply ye;refine yL ?_;apply yg;apply ye;refine yh ?_;apply xS;refine zX (fun k => [(0, itsA l), (4, iv (k : Int))]) (fun k => []) (fun k => k <= l.length /\ ckIE l = ckIE (l.drop k) /\ ckIX l 0 = ckIX (l.drop k) (k : Int)) l.length (fun k I => ?_) (hJ := by exact ⟨by omega, rfl, rfl⟩) (h0 := yd);obtain ⟨G, Z, V⟩ := I;refine gd ?_ ?_<;>intro E
 ·obtain ⟨x, hx⟩ : ∃ x, l[k]? = some x := ⟨_, lgg (by omega)⟩;have xT : l[(k : Int).toNat]? = some x := by simpa using hx
  apply yl;apply yg;apply xS;apply ye;iterate 4 refine ya ?_
  refine zh ?_;refine xY ?_;apply k9;apply yg;apply ye;iterate 3 refine ya ?_
  refine xX 3 ?_;refine ym ?_;iterate 3 refine xW ?_
  iterate 2 refine ym ?_
  iterate 3 refine xW ?_
  iterate 2 refine ym ?_
  iterate 3 refine xW ?_
  refine gf ?_ ?_<;>intro x4
  ·have U : itF x = 2 := by unfold itF; rw [j4 (by unfold itRg; omega)]
   have hE : ckIE l = 2 := by rw [Z, zbn hx, U, j3 (by decide)]
   have hX : ckIX l 0 = (k : Int) := by rw [V, zbo _ hx, U, j3 (by decide)]
   refine gq ?_;refine yj ?_ ?_;all_goals (first | exact zE hE | exact zE hX)
  have H : ¬ itRg x := by unfold itRg; omega
  have hT : (itT x).length = 3 := rfl;refine gq ?_;refine kF (yo (enc := tmE) (l := [x.Dur, x.Before, x.After]) sl50 ty83 ze83 (by decide) rfl rfl rfl rfl (by decide) (by decide) (fun _ => rfl) rfl) rfl rfl ?_;refine yh ?_;apply yg;apply ye;refine yh ?_;apply xS;refine zX (fun j => [(0, itsA l), (4, iv (k : Int)), (5, .ptr 5 0 0 0), (6, tmsA (itT x)), (7, iv (j : Int))]) (fun j => [(5, .box (itE x) 183)]) (fun j => j <= 3 /\ yI (itT x) = yI ((itT x).drop j)) 3 (fun j I => ?_) (hJ := by exact ⟨by omega, rfl⟩) (h0 := yd);obtain ⟨x3, Q⟩ := I;refine gd ?_ ?_<;>intro x2
  ·obtain ⟨t, ht⟩ : ∃ t, (itT x)[j]? = some t := ⟨_, lgg (show j < (itT x).length by simp; omega)⟩;have x1 := zlR x ht;have x0 : (itT x)[(j : Int).toNat]? = some t := by simpa using ht
   refine gc (zJ t) ?_;refine gd ?_ ?_<;>intro T
   ·have hf : yI (itT x) = ckT t := by rw [Q, zbm ht, j3 T]
    have U : itF x = ckT t := by unfold itF; rw [j3 H, hf, j3 T]
    have hE : ckIE l = ckT t := by rw [Z, zbn hx, U, j3 T]
    have hX : ckIX l 0 = (k : Int) := by rw [V, zbo _ hx, U, j3 T]
    refine gq ?_;refine yj ?_ ?_;all_goals (first | exact zE hE | exact zE hX)
   refine gq ?_;refine yw (j + 1) (hJ := by exact ⟨by omega, by rw [Q, zbm ht, j4 T]⟩)
  ·have hf : yI (itT x) = 0 := by rw [Q, w4 (by simp; omega)]; unfold yI; rfl
   apply k8;apply ye;(iterate 2 refine ya ?_);refine xX 2 ?_;refine ym ?_;(iterate 2 refine xW ?_);(iterate 2 refine ym ?_);(iterate 11 refine xW ?_);refine gf ?_ ?_<;>intro N
   ·have U : itF x = 8 := by unfold itF; rw [j3 H, j4 hf, j4 (by unfold itKd; revert N; cases x.Rest <;> cases x.Color <;> cases x.Fixed <;> simp)]
    have hE : ckIE l = 8 := by rw [Z, zbn hx, U, j3 (by decide)]
    have hX : ckIX l 0 = (k : Int) := by rw [V, zbo _ hx, U, j3 (by decide)]
    refine gq ?_;refine yj ?_ ?_;all_goals (first | exact zE hE | exact zE hX)
   have U : itF x = 0 := by unfold itF; rw [j3 H, j4 hf, j3 (by unfold itKd; revert N; cases x.Rest <;> cases x.Color <;> cases x.Fixed <;> simp)]
   refine gq ?_;refine yw (k + 1) (hJ := by exact ⟨by omega, by rw [Z, zbn hx, j4 U], by rw [V, zbo _ hx, j4 U]; rfl⟩)
 ·have J : k = l.length := by omega
  have hE : ckIE l = 0 := by rw [Z, J, wS]; rfl
  have hX : ckIX l 0 = 0 := by rw [V, J, wS]; rfl
  refine gq ?_;refine yj ?_ ?_;all_goals (first | exact zE hE | exact zE hX)
def zgu (m : Mn) (k : Int) (h0 : -9223372036854775808 <= k) (N : k <= 9223372036854775807) : Fn prog 327 [mnA m, iv k] (.tup [tmA (unT m k), iv (unE m k)]) := by
 refine xV func327 ntmps327 (fun g w d => ?_);refine gc (zdj m) ?_;refine gd ?_ ?_<;>intro T
 ·have U : unE m k = ckM m := by unfold unE; rw [j3 T]
  have Q : unT m k = tmZ := by unfold unT; rw [j3 (by rw [U]; exact T)]
  refine gq ?_;refine yx ty83 ?_ ?_;all_goals (first | exact zE U | exact zE Q)
 have Z : ckM m = 0 := T;refine gc (yS (if ckM m = 0 then perfL m else []) k (by have := zjL m; split <;> simp <;> omega)) ?_;refine gd ?_ ?_<;>intro V
 ·rw [j4 Z] at V;have U : unE m k = 2 := by unfold unE; rw [j4 Z, j3 (fun h => absurd ((zg1 m k).2 h) (by simpa using V))]
  have Q : unT m k = tmZ := by unfold unT; rw [j3 (by rw [U]; decide)]
  refine gq ?_;refine yx ty83 ?_ ?_;all_goals (first | exact zE U | exact zE Q)
 rw [j4 Z] at V;have hm := (zg1 m k).1 (by simpa using V);have U : unE m k = 0 := by unfold unE; rw [j4 Z, j4 hm]
 have Q : unT m k = yp m (k + 1) := by unfold unT; rw [j4 U]
 refine gc (zaT (v := k + 1) Z (by omega) (by omega)) ?_;refine yx ty83 ?_ ?_;all_goals (first | exact zE U | exact zE Q)
def zcK (m : Mn) (k : Int) : Fn prog 320 [mnA m, iv k] (.tup [tmA (unT m k), iv (unE m k)]) := by
 refine xV func320 ntmps320 (fun g w d => ?_);refine gc (zj m) ?_;refine gd ?_ ?_<;>intro V
 ·have Z : unE m k = ckM m := by unfold unE; rw [j3 V]
  have T : unT m k = tmZ := by unfold unT; rw [j3 (by rw [Z]; exact V)]
  refine gq ?_;refine yx ty83 ?_ ?_;all_goals (first | exact zE Z | exact zE T)
 have U : ckM m = 0 := V;apply yl;apply yg;apply ye;iterate 2 refine ya ?_
 refine xX 2 ?_;refine gq ?_;refine kK (yX m k) ?_;refine xW ?_;refine gf ?_ ?_<;>intro Q
 ·have Z : unE m k = 2 := by unfold unE; rw [j4 U, j3 (by omega)]
  have T : unT m k = tmZ := by unfold unT; rw [j3 (by rw [Z]; decide)]
  refine gq ?_;refine yx ty83 ?_ ?_;all_goals (first | exact zE Z | exact zE T)
 have Z : unE m k = 0 := by unfold unE; rw [j4 U, j4 (by omega)]
 have T : unT m k = yp m (k + 1) := by unfold unT; rw [j4 Z]
 refine gc (zH (v := k + 1) U (by omega) (by omega)) ?_;refine yx ty83 ?_ ?_;all_goals (first | exact zE Z | exact zE T)
def zaE (l : List Ite) (b : Bd) (U : b.item < l.length) : Fn prog 347 [.agg [itsA l], bdA b] (iv (hdI l b)) := by
 refine xV func347 ntmps347 (fun g w d => ?_);apply ye;iterate 2 refine zF ?_
 refine yh ?_;apply yg;apply ye;iterate 3 refine ya ?_
 refine xX 3 ?_;refine ym ?_;iterate 7 refine xW ?_
 refine gf ?_ ?_<;>intro Z
 ·have V : hdI l b = -1 := by unfold hdI; rw [j4 Z]
  refine gq ?_;all_goals rw [V]
 have V : hdI l b = b.item := by unfold hdI; rw [j3 (by rintro (h | h); omega; (rw [Z.2] at h; cases h))]
 refine gq ?_;all_goals rw [V]
def zcL (l : List Ite) (b : Bd) (U : b.item < l.length) : Fn prog 322 [itsA l, .agg [iv (bdF b), iv b.next, iv b.item]] (iv (hdI l b)) := by
 refine xV func322 ntmps322 (fun g w d => ?_);apply ye;refine zF ?_;refine yh ?_;apply yg;apply ye;iterate 3 refine ya ?_
 refine xX 3 ?_;refine ym ?_;iterate 7 refine xW ?_
 refine gf ?_ ?_<;>intro Z
 ·have V : hdI l b = b.item := by unfold hdI; rw [j3 (by rintro (h | h); omega; (rw [Z.2] at h; cases h))]
  refine gq ?_;all_goals rw [V]
 have V : hdI l b = -1 := by unfold hdI; rw [j4 (by rcases Z with h | h; exact .inl (by omega); exact .inr h)]
 refine gq ?_;all_goals rw [V]
def zbe (a b : Tm) : Fn prog 340 [tmA a, tmA b] (.tup [tmA (if lsE a b = 0 then subV a b else tmZ), iv (lsE a b)]) := by
 refine xV func340 ntmps340 (fun g w d => ?_);refine gc (z6 a b) ?_;refine gd ?_ ?_<;>intro Z
 ·have hE : lsE a b = 14 := by unfold lsE; rw [j4 Z]
  refine gq ?_;refine yx ty83 ?_ ?_;all_goals (first | exact zE hE | (rw [hE, V]; done) | (rw [hE, V]; rfl))
 have hE : lsE a b = subE a b := by unfold lsE; rw [j3 Z]
 have V : (if subE a b = 0 then subV a b else tmZ) = subV a b := by
  split
  ·rfl
  ·rename_i h; unfold subV; unfold subE at h; split
   ·rename_i U; rw [j4 U] at h; unfold tmkT; rw [j3 h]
   ·rfl
 refine gq ?_;refine yx ty83 ?_ ?_;all_goals (first | exact zE hE | (rw [hE, V]; done) | (rw [hE, V]; rfl))
end
end Go.Rse
