/-
  Walks.
-/
import Derived.Test.YtbopkhoalndflaaGreatDoorVJTime
set_option linter.all false
namespace Go.Rse
open Go Go.Proofs Go.Proofs.Tryz
section
attribute [local irreducible] Pur yu yq Ex X Fn Imp LeV LeB FnO It yD
attribute [local irreducible] gI
def zgr (a b : Int) (h0 : 0 <= a) (Z : a <= 9223372036854775807) (V : 0 < b) : Fn prog 146 [iv a, iv b] (.tup [iv (a / b), iv (a % b)]) := by
 refine xV func146 ntmps146 (fun g w d => ?_);refine gq ?_;refine yW [4,5,6,7,8,9,10,11] [0,0,3,0,0,24,7,127] mo ?_;iterate 8 refine yb ?_
 refine yA ?_;refine gq ?_;refine yj ?_ ?_;all_goals exact zR
def zbA (a b : Int) (h0 : 0 <= a) (U : a <= 9223372036854775807) (T : 0 <= b) (Q : b <= 9223372036854775807) : Fn prog 165 [iv a, iv b] (iv (gI a b)) := by
 induction hn : b.toNat using Nat.strongRecOn generalizing a b
 rename_i n ih;refine xV func165 ntmps165 (fun g w d => ?_);refine gd ?_ ?_<;>intro V
 ·refine gq ?_;all_goals (rw [V, zkQ h0])
 have Z : 0 < b := by omega
 have e0 := uL a (show b ≠ 0 by omega);have e1 := wZ a Z;refine gc (zgr a b h0 U Z) ?_;refine gc (ih (a % b).toNat (by omega) b (a % b) T Q e0 (by omega) rfl) ?_;all_goals (rw [zkR h0 Z])
def zco (t : Tm) : Fn prog 119 [tmA t] (iv (ckT t)) := by
 refine xV func119 ntmps119 (fun g w d => ?_);apply ye;refine zF ?_;refine yh ?_;apply yg;apply xS;apply ye;iterate 3 refine ya ?_
 refine xX 3 ?_;refine ym ?_;iterate 3 refine xW ?_
 iterate 2 refine ym ?_
 iterate 3 refine xW ?_
 iterate 2 refine ym ?_
 iterate 3 refine xW ?_
 refine gf ?_ ?_<;>intro V
 ·refine gq ?_;all_goals (congr 1; unfold ckT; rw [j4 (by omega)])
 refine gc (zbA t.N t.D (by omega) (by omega) (by omega) (by omega)) ?_;refine gd ?_ ?_<;>intro Z
 ·refine gq ?_;all_goals (congr 1; unfold ckT; rw [j3 (by omega), j4 Z])
 refine gq ?_;all_goals (congr 1; unfold ckT; rw [j3 (by omega), j3 (by omega)])
def zat (l : List Tm) (hl : l.length <= 4000000000) : Fn prog 144 [tmsA l] (iv (yI l)) := by
 refine xV func144 ntmps144 (fun g w d => ?_);apply ye;refine yh ?_;apply yg;apply ye;refine yy ?_;apply xS;refine zX (fun k => [(6, tmsA l), (7, iv l.length), (8, iv (k : Int))]) (fun k => []) (fun k => k <= l.length /\ yI l = yI (l.drop k)) l.length (fun k U => ?_) (hJ := by exact ⟨by omega, rfl⟩) (h0 := yd);obtain ⟨T, Z⟩ := U;refine gd ?_ ?_<;>intro Q
 ·obtain ⟨t, ht⟩ : ∃ t, l[k]? = some t := ⟨_, lgg (by omega)⟩;have N : l[(k : Int).toNat]? = some t := by simpa using ht
  refine gc (zco t) ?_;refine gd ?_ ?_<;>intro V
  ·refine gq ?_;all_goals (congr 1; rw [Z, zbm ht, j3 V])
  refine gq ?_;refine yw (k + 1) (hJ := by exact ⟨by omega, by rw [Z, zbm ht, j4 V]⟩)
 ·refine gq ?_;all_goals (congr 1; rw [Z, w4 (by omega)]; rfl)
def zc9 (n q : Int) (h0 : n <= 9223372036854775807) (Q : q <= 9223372036854775807) (hm : -9223372036854775808 <= n) : Fn prog 145 [iv n, iv q] (.tup [tmA (tmkT n q), iv (tmkE n q)]) := by
 refine xV func145 ntmps145 (fun g w d => ?_);apply ye;refine zh ?_;refine yh ?_;apply yg;apply xS;apply ye;iterate 2 refine ya ?_
 refine xX 2 ?_;refine ym ?_;iterate 2 refine xW ?_
 refine gf ?_ ?_<;>intro V
 ·have hE : tmkE n q = 2 := by unfold tmkE; rw [j4 V]
  have Z : tmkT n q = tmZ := by unfold tmkT; rw [j3 (by omega)]
  refine gq ?_;refine yx ty83 ?_ ?_;all_goals (first | exact zE hE | exact zE Z)
 refine gd ?_ ?_<;>intro U
 ·have hE : tmkE n q = 5 := by unfold tmkE; rw [j3 (by omega), j4 U]
  have Z : tmkT n q = tmZ := by unfold tmkT; rw [j3 (by omega)]
  refine gq ?_;refine yx ty83 ?_ ?_;all_goals (first | exact zE hE | exact zE Z)
 have N := zcM (n := n) (d := q) (by omega);refine gc (zbA n q (by omega) (by omega) (by omega) (by omega)) ?_;refine yW [7,23,24,25,26,27,28,29] [0,0,3,0,0,24,63,0,255] mo ?_;iterate 7 refine yb ?_
 refine ChM.step rfl rfl rfl (zu (k := 7) zc83) rfl ?_;refine yA ?_;refine xY ?_;apply k9;apply yg;apply ye;iterate 3 refine ya ?_
 refine xX 3 ?_;refine ym ?_;iterate 3 refine xW ?_
 refine gf ?_ ?_<;>intro T
 ·have hE : tmkE n q = 4 := by unfold tmkE; rw [j3 (by omega), j3 (by omega), j4 T]
  have Z : tmkT n q = tmZ := by unfold tmkT; rw [j3 (by omega)]
  refine gq ?_;refine yx ty83 ?_ ?_;all_goals (first | exact zE hE | exact zE Z)
 have hE : tmkE n q = 0 := by unfold tmkE; rw [j3 (by omega), j3 (by omega), j3 (fun h => by omega)]
 have Z : tmkT n q = ⟨n / gI n q, q / gI n q⟩ := by unfold tmkT; rw [j4 hE]
 refine gq ?_;refine yx ty83 ?_ ?_;all_goals (first | exact zE hE | exact zE Z)
def zbd (a b : Tm) : Fn prog 103 [tmA a, tmA b] (.tup [tmA (addV a b), iv (addE a b)]) := by
 refine xV func103 ntmps103 (fun g w d => ?_);refine gq ?_;refine yz tmE [⟨_, _⟩, ⟨_, _⟩] ?_;refine kG (xP (k := 9) rfl) ?_;refine gc (zat [a, b] (by simp)) ?_;refine gd ?_ ?_<;>intro Z
 ·have hE : addE a b = yI [a, b] := by unfold addE; rw [j3 Z]
  have U : addV a b = tmZ := by unfold addV; rw [j3 Z]
  refine gq ?_;refine yx ty83 ?_ ?_;all_goals (first | exact zE hE | exact zE U | (unfold addE; rw [j4 Z]; done) | (unfold addV; rw [j4 Z]; done) | (unfold addV; rw [j4 Z]; rfl))
 have V := zbX Z;have b1 := zaj V.1;have b2 := zaj V.2;have m1 := mulB b1.1 b1.2.1 b2.2.2.1 b2.2.2.2.1;have m2 := mulB b2.1 b2.2.1 b1.2.2.1 b1.2.2.2.1;have m3 := mulB b1.2.2.1 b1.2.2.2.1 b2.2.2.1 b2.2.2.2.1;have m4 := mulP b1.2.2.2.2.1 b2.2.2.2.2.1;refine gc (zc9 (a.N * b.D + b.N * a.D) (a.D * b.D) (by omega) (by omega) (by omega)) ?_;refine yx ty83 ?_ ?_;all_goals (first | exact zE hE | exact zE U | (unfold addE; rw [j4 Z]; done) | (unfold addV; rw [j4 Z]; done) | (unfold addV; rw [j4 Z]; rfl))
def zcI (a b : Tm) : Fn prog 266 [tmA a, tmA b] (.tup [tmA (subV a b), iv (subE a b)]) := by
 refine xV func266 ntmps266 (fun g w d => ?_);refine gq ?_;refine yz tmE [⟨_, _⟩, ⟨_, _⟩] ?_;refine kG (xP (k := 9) rfl) ?_;refine gc (zat [a, b] (by simp)) ?_;refine gd ?_ ?_<;>intro Z
 ·have hE : subE a b = yI [a, b] := by unfold subE; rw [j3 Z]
  have U : subV a b = tmZ := by unfold subV; rw [j3 Z]
  refine gq ?_;refine yx ty83 ?_ ?_;all_goals (first | exact zE hE | exact zE U | (unfold subE; rw [j4 Z]; done) | (unfold subV; rw [j4 Z]; done) | (unfold subV; rw [j4 Z]; rfl))
 have V := zbX Z;have b1 := zaj V.1;have b2 := zaj V.2;have m1 := mulB b1.1 b1.2.1 b2.2.2.1 b2.2.2.2.1;have m2 := mulB b2.1 b2.2.1 b1.2.2.1 b1.2.2.2.1;have m3 := mulB b1.2.2.1 b1.2.2.2.1 b2.2.2.1 b2.2.2.2.1;have m4 := mulP b1.2.2.2.2.1 b2.2.2.2.2.1;refine gc (zc9 (a.N * b.D - b.N * a.D) (a.D * b.D) (by omega) (by omega) (by omega)) ?_;refine yx ty83 ?_ ?_;all_goals (first | exact zE hE | exact zE U | (unfold subE; rw [j4 Z]; done) | (unfold subV; rw [j4 Z]; done) | (unfold subV; rw [j4 Z]; rfl))
set_option maxRecDepth 9999 in
def zgs (a b c q : Int) (a0 : 0 <= a) (a1 : a <= 1099511627776) (b0 : 1 <= b) (b1 : b <= 1099511627776) (c0 : 0 <= c) (c1 : c <= 1099511627776) (d0 : 1 <= q) (d1 : q <= 1099511627776) : Fn prog 254 [iv a, iv b, iv c, iv q] (.tup [tmA (tmsV a b c q), iv (tmsE a b c q)]) := by
 have I := zcM (n := a) (d := q) (by omega);have G := zcM (n := c) (d := b) (by omega);have qa := wQ a0 (u6 I);have qb := wQ (show 0 <= b by omega) (u6 G);have qc := wQ c0 (u6 G);have qd := wQ (show 0 <= q by omega) (u6 I);have ra := uC (gI a q) a0;have rb := uC (gI c b) (show 0 <= b by omega);have rc := uC (gI c b) c0;have rd := uC (gI a q) (show 0 <= q by omega);have hE : tmsE a b c q = if bigQ (a / gI a q) (b / gI c b) (c / gI c b) (q / gI a q) then 4 else tmkE (a / gI a q * (c / gI c b)) (b / gI c b * (q / gI a q)) := rfl
 have E : tmsV a b c q = if bigQ (a / gI a q) (b / gI c b) (c / gI c b) (q / gI a q) then tmZ else tmkT (a / gI a q * (c / gI c b)) (b / gI c b * (q / gI a q)) := rfl
 rw [hE, E];refine xV func254 ntmps254 (fun g w d => ?_);refine gc (zbA a q (by omega) (by omega) (by omega) (by omega)) ?_;refine yM (zbA c b (by omega) (by omega) (by omega) (by omega)) ?_;refine yL ?_;apply yg;refine zax [⟨0, 18, iv a, []⟩, ⟨1, 19, iv (gI a q), []⟩, ⟨2, 20, iv (a / gI a q), [1, 0]⟩, ⟨3, 21, iv q, []⟩, ⟨4, 22, iv (gI a q), []⟩, ⟨5, 23, iv (q / gI a q), [4, 3]⟩, ⟨6, 24, iv c, []⟩, ⟨7, 25, iv (gI c b), []⟩, ⟨8, 26, iv (c / gI c b), [7, 6]⟩, ⟨9, 27, iv b, []⟩, ⟨10, 28, iv (gI c b), []⟩, ⟨11, 29, iv (b / gI c b), [10, 9]⟩] [(12, [1, 0, 2]), (13, [4, 3, 2, 1, 0, 12, 5]), (14, [12, 7, 6, 5, 4, 3, 2, 1, 0, 13, 8]), (15, [13, 12, 10, 9, 8, 7, 6, 5, 4, 3, 2, 1, 0, 14, 11])] (let T := [(8, .ptr 8 0 0 0), (10, iv (gI a q)), (11, iv (gI c b))]; let H := [(8, .box [iv 0, iv 0] 83)]; fun j => match j with | 0 => ⟨(0, iv (a)) :: (1, iv (b)) :: (2, iv (c)) :: (3, iv (q)) :: T, H⟩ | 1 => ⟨(0, iv (a / gI a q)) :: (1, iv (b)) :: (2, iv (c)) :: (3, iv (q)) :: T, H⟩ | 2 => ⟨(0, iv (a / gI a q)) :: (1, iv (b)) :: (2, iv (c)) :: (3, iv (q / gI a q)) :: T, H⟩ | 3 => ⟨(0, iv (a / gI a q)) :: (1, iv (b)) :: (2, iv (c / gI c b)) :: (3, iv (q / gI a q)) :: T, H⟩ | _ => ⟨(0, iv (a / gI a q)) :: (1, iv (b / gI c b)) :: (2, iv (c / gI c b)) :: (3, iv (q / gI a q)) :: T, H⟩) mo (zl (yd)) (fun j hj => ?_) ⟨fun β => Co1 (yP (xO (zb9 rfl)) rfl rfl), fun β => Co1 (yP (xO (zb9 rfl)) rfl rfl), fun β => Co1 (yP (xO (zb9 rfl)) rfl rfl), fun β => Co1 (yP (xO (zb9 rfl)) rfl rfl), trivial⟩ ?_
 ·rcases j with _ | _ | _ | _ | _ | j
  ·exact yC
  ·exact yC
  ·exact yC
  ·exact yC
  ·exact yC
  ·exact absurd (show j + 5 <= 4 from hj) (by omega)
 iterate 2 apply yg
 generalize a / gI a q = a2 at *
 generalize b / gI c b = b2 at *
 generalize c / gI c b = c2 at *
 generalize q / gI a q = d2 at *
 apply yi;iterate 2 refine ya ?_
 refine xX 2 ?_;refine ym ?_;iterate 4 refine xW ?_
 iterate 2 refine ym ?_
 iterate 8 refine xW ?_
 refine gf ?_ ?_<;>intro V
 ·have Z : bigQ a2 b2 c2 d2 := V;refine gq ?_;refine yx ty83 ?_ ?_;all_goals (first | (rw [j3 Z]; done) | (rw [j3 Z]; rfl) | (rw [j4 Z]; done) | (rw [j4 Z]; rfl))
 have Z : ¬ bigQ a2 b2 c2 d2 := fun h => by unfold bigQ at h; omega
 have z1 : 0 <= a2 * c2 := v6 qa qc
 have z2 : a2 * c2 <= 1099511627776 := by
  by_cases h : 0 < a2
  ·exact zeY h (by decide) (fun U => Z (.inl ⟨h, U⟩))
  ·rw [show a2 = 0 by omega]; simp
 have z3 : b2 * d2 <= 1048576 := by
  by_cases h : 0 < d2
  ·rw [Int.mul_comm]; exact zeY h (by decide) (fun U => Z (.inr ⟨h, U⟩))
  ·rw [show d2 = 0 by omega]; simp
 have Q : -9223372036854775808 <= a2 * c2 := by omega
 have N : a2 * c2 <= 9223372036854775807 := by omega
 have J : b2 * d2 <= 9223372036854775807 := by omega
 have z4 : 0 <= b2 * d2 := v6 qb qd;refine gc (zc9 _ _ N J Q) ?_;refine yx ty83 ?_ ?_;all_goals (first | (rw [j3 Z]; done) | (rw [j3 Z]; rfl) | (rw [j4 Z]; done) | (rw [j4 Z]; rfl))
def zdS (a b : Tm) : Fn prog 190 [tmA a, tmA b] (.tup [tmA (mulV a b), iv (mulE a b)]) := by
 refine xV func190 ntmps190 (fun g w d => ?_);refine gq ?_;refine yz tmE [⟨_, _⟩, ⟨_, _⟩] ?_;refine kG (xP (k := 9) rfl) ?_;refine gc (zat [a, b] (by simp)) ?_;refine gd ?_ ?_<;>intro Z
 ·have hE : mulE a b = yI [a, b] := by unfold mulE; rw [j3 Z]
  have U : mulV a b = tmZ := by unfold mulV; rw [j3 Z]
  refine gq ?_;refine yx ty83 ?_ ?_;all_goals (first | exact zE hE | exact zE U | (unfold mulE; rw [j4 Z]; done) | (unfold mulV; rw [j4 Z]; done) | (unfold mulV; rw [j4 Z]; rfl))
 have V := zbX Z;have b1 := zaj V.1;have b2 := zaj V.2;have m1 := mulB b1.1 b1.2.1 b2.2.2.1 b2.2.2.2.1;have m2 := mulB b2.1 b2.2.1 b1.2.2.1 b1.2.2.2.1;have m3 := mulB b1.2.2.1 b1.2.2.2.1 b2.2.2.1 b2.2.2.2.1;have m4 := mulP b1.2.2.2.2.1 b2.2.2.2.2.1;refine gc (zgs a.N a.D b.N b.D b1.1 b1.2.1 b1.2.2.2.2.1 (by omega) b2.1 b2.2.1 b2.2.2.2.2.1 (by omega)) ?_;refine yx ty83 ?_ ?_;all_goals (first | exact zE hE | exact zE U | (unfold mulE; rw [j4 Z]; done) | (unfold mulV; rw [j4 Z]; done) | (unfold mulV; rw [j4 Z]; rfl))
def ziv (a b : Tm) : Fn prog 379 [tmA a, tmA b] (.tup [iv (cmpV a b), iv (yI [a, b])]) := by
 refine xV func379 ntmps379 (fun g w d => ?_);refine gq ?_;refine yz tmE [⟨_, _⟩, ⟨_, _⟩] ?_;refine kG (xP (k := 10) rfl) ?_;refine gc (zat [a, b] (by simp)) ?_;refine gd ?_ ?_<;>intro Z
 ·have V : cmpV a b = 0 := by unfold cmpV; rw [j3 Z]
  refine gq ?_;refine yj ?_ ?_;all_goals (first | exact zE V | rfl | exact zE Z)
 have U := zbX Z;have b1 := zaj U.1;have b2 := zaj U.2;have m1 := mulB b1.1 b1.2.1 b2.2.2.1 b2.2.2.2.1;have m2 := mulB b2.1 b2.2.1 b1.2.2.1 b1.2.2.2.1;have m3 := mulB b1.2.2.1 b1.2.2.2.1 b2.2.2.1 b2.2.2.2.1;have m4 := mulP b1.2.2.2.2.1 b2.2.2.2.2.1;refine gd ?_ ?_<;>intro T
 ·have V : cmpV a b = -1 := by unfold cmpV; rw [j4 Z, j4 (by omega)]
  refine gq ?_;refine yj ?_ ?_;all_goals (first | exact zE V | rfl | exact zE Z)
 refine gd ?_ ?_<;>intro Q
 ·have V : cmpV a b = 1 := by unfold cmpV; rw [j4 Z, j3 (by omega), j4 (by omega)]
  refine gq ?_;refine yj ?_ ?_;all_goals (first | exact zE V | rfl | exact zE Z)
 have V : cmpV a b = 0 := by unfold cmpV; rw [j4 Z, j3 (by omega), j3 (by omega)]
 refine gq ?_;refine yj ?_ ?_;all_goals (first | exact zE V | rfl | exact zE Z)
theorem zmC (l : List Tm) (hl : l.length <= 4000000000) : Fn prog 348 [tmsA l] (.tup [tmA (sumV l), iv (sumE l)]) := by
 refine xV func348 ntmps348 (fun g w d => ?_);refine gc (zat l hl) ?_;refine gd ?_ ?_<;>intro Z
 ·have hE : sumE l = yI l := by unfold sumE; rw [j3 Z]
  have U : sumV l = tmZ := by unfold sumV; rw [j3 Z]
  refine gq ?_;refine yx ty83 ?_ ?_;all_goals (first | exact zE hE | exact zE U)
 have hE : sumE l = (sumF ⟨0, 1⟩ l).2 := by unfold sumE; rw [j4 Z]
 have U : sumV l = (sumF ⟨0, 1⟩ l).1 := by unfold sumV; rw [j4 Z]
 refine gq ?_;refine zdW (ι := Nat × Tm) (fun (p : Nat × Tm) => [(2, .ptr 2 0 0 0), (5, .ptr 5 0 0 0), (16, tmsA l), (17, iv l.length), (18, iv (p.1 : Int))]) (fun (p : Nat × Tm) => [(2, .box [iv 0, iv 0] 83), (5, .box (tmE p.2) 83)]) (fun (p : Nat × Tm) => p.1 <= l.length /\ sumF ⟨0, 1⟩ l = sumF p.2 (l.drop p.1)) (fun (p : Nat × Tm) => l.length - p.1) (0, ⟨0, 1⟩) (fun p N => ?_) (hJ := by exact ⟨by simp, rfl⟩);obtain ⟨k, s⟩ := p;obtain ⟨J, V⟩ := N;dsimp only at *
 refine gd ?_ ?_<;>intro I
 ·obtain ⟨t, ht⟩ : ∃ t, l[k]? = some t := ⟨_, lgg (by omega)⟩;have H : l[(k : Int).toNat]? = some t := by simpa using ht
  refine gc (zbd s t) ?_;refine gd ?_ ?_<;>intro T
  ·have Q := zjQ (s := s) ht;rw [j3 T] at Q;rw [V, Q] at hE U;refine gq ?_;refine yx ty83 ?_ ?_;all_goals (first | exact zE hE | exact zE U)
  refine gq ?_;refine yw ((k + 1, addV s t)) (hJ := by exact ⟨by dsimp only; omega, by rw [V, zjQ ht, j4 T]⟩)
 ·rw [V, w4 (by omega)] at hE U;refine gq ?_;refine yx ty83 ?_ ?_;all_goals (first | exact zE hE | exact zE U)
def zkL (a b : Tm) : Fn prog 104 [tmA a, tmA b] (.tup [iv (whQ a b), tmA (whR a b), iv (whE a b)]) := by
 refine xV func104 ntmps104 (fun g w d => ?_);refine gq ?_;refine yz tmE [⟨_, _⟩, ⟨_, _⟩] ?_;refine kG (xP (k := 14) rfl) ?_;refine gc (zat [a, b] (by simp)) ?_;refine gd ?_ ?_<;>intro V
 ·have hE : whE a b = yI [a, b] := by unfold whE; rw [j3 V]
  have U : whQ a b = 0 := by unfold whQ; rw [j3 (by omega)]
  have T : whR a b = tmZ := by unfold whR; rw [j3 (by omega)]
  refine gq ?_;refine k7 (.many (by decide) (.cons (.tmp rfl (xR ?_)) (.cons (.cellA rfl rfl rfl rfl ty83 (xR ?_)) (.cons (.tmp rfl (xR ?_)) .nil))));all_goals (first | exact zE U | exact zE hE | exact zE T | (rw [hE, Z]; done))
 have Q := zbX V;have b1 := zaj Q.1;have b2 := zaj Q.2;have m1 := mulB b1.1 b1.2.1 b2.2.2.1 b2.2.2.2.1;have m2 := mulB b2.1 b2.2.1 b1.2.2.1 b1.2.2.2.1;have m3 := mulB b1.2.2.1 b1.2.2.2.1 b2.2.2.1 b2.2.2.2.1;have m4 := mulP b1.2.2.2.2.1 b2.2.2.2.2.1;refine gd ?_ ?_<;>intro J
 ·have hE : whE a b = 5 := by unfold whE; rw [j4 V, j4 J]
  have U : whQ a b = 0 := by unfold whQ; rw [j3 (by omega)]
  have T : whR a b = tmZ := by unfold whR; rw [j3 (by omega)]
  refine gq ?_;refine k7 (.many (by decide) (.cons (.tmp rfl (xR ?_)) (.cons (.cellA rfl rfl rfl rfl ty83 (xR ?_)) (.cons (.tmp rfl (xR ?_)) .nil))));all_goals (first | exact zE U | exact zE hE | exact zE T | (rw [hE, Z]; done))
 have hE : whE a b = tmkE (a.N * b.D % (b.N * a.D)) (a.D * b.D) := by unfold whE; rw [j4 V, j3 J]
 have m5 : 0 < b.N * a.D := by have := mulP (x := b.N) (y := a.D) (by omega) (by omega); omega
 have e0 := uL (a.N * b.D) (show b.N * a.D ≠ 0 by omega);have e1 := wZ (a.N * b.D) m5;refine gc (zgr (a.N * b.D) (b.N * a.D) (by omega) (by omega) m5) ?_;refine gc (zc9 (a.N * b.D % (b.N * a.D)) (a.D * b.D) (by omega) (by omega) (by omega)) ?_;refine gd ?_ ?_<;>intro Z
 ·have U : whQ a b = 0 := by unfold whQ; rw [hE, j3 Z]
  have T : whR a b = tmZ := by unfold whR; rw [hE, j3 Z]
  refine gq ?_;refine k7 (.many (by decide) (.cons (.tmp rfl (xR ?_)) (.cons (.cellA rfl rfl rfl rfl ty83 (xR ?_)) (.cons (.tmp rfl (xR ?_)) .nil))));all_goals (first | exact zE U | exact zE hE | exact zE T | (rw [hE, Z]; done))
 have U : whQ a b = a.N * b.D / (b.N * a.D) := by unfold whQ; rw [hE, j4 Z]
 have T : whR a b = tmkT (a.N * b.D % (b.N * a.D)) (a.D * b.D) := by unfold whR; rw [hE, j4 Z]
 refine gq ?_;refine yW [4,52,53] [0,0,1,7,15] mo ?_;iterate 3 refine yb ?_
 refine yA ?_;refine gq ?_;refine k7 (.many (by decide) (.cons (.tmp rfl (xR ?_)) (.cons (.cellA rfl rfl rfl rfl ty83 (xR ?_)) (.cons (.tmp rfl (xR ?_)) .nil))));all_goals (first | exact zE U | exact zE hE | exact zE T | (rw [hE, Z]; done))
end
section
attribute [local irreducible] Pur yu yq Ex X Fn Imp LeV LeB FnO It yD
attribute [local irreducible] gI
def zjO (a b : Tm) : yI [a, b] = if ckT a = 0 then ckT b else ckT a := by
 simp only [yI];by_cases Z : ckT a = 0
 ·rw [j4 Z, j4 Z];by_cases V : ckT b = 0
  ·rw [j4 V, V]
  ·rw [j3 V]
 ·rw [j3 Z, j3 Z]
def zaC (a b : Int) (h0 : 0 <= a) (U : a <= 9223372036854775807) (T : 0 <= b) (Q : b <= 9223372036854775807) : Fn prog 199 [iv a, iv b] (iv (gI a b)) := by
 refine xV func199 ntmps199 (fun g w d => ?_);refine gq ?_;refine zdW (ι := Int × Int) (fun (p : Int × Int) => [(0, iv p.1), (1, iv p.2)]) (fun (p : Int × Int) => []) (fun (p : Int × Int) => 0 <= p.1 /\ 0 <= p.2 /\ p.1 <= 9223372036854775807 /\ p.2 <= 9223372036854775807 /\ gI p.1 p.2 = gI a b) (fun (p : Int × Int) => p.2.toNat) (a, b) (fun p N => ?_) (hJ := by exact ⟨h0, T, U, Q, rfl⟩);obtain ⟨x, y⟩ := p;obtain ⟨k1, k2, k3, k4, k5⟩ := N;dsimp only at *
 refine gd ?_ ?_<;>intro Z
 ·have e0 := uL x (show y ≠ 0 by omega);have e1 := wZ x Z;refine gq ?_;refine yw ((y, x % y)) (hJ := by exact ⟨by omega, e0, by dsimp only; omega, by dsimp only; omega, by rw [← k5]; exact zkR k1 Z⟩)
 ·have V : y = 0 := by omega
  subst V;refine gq ?_;all_goals (rw [← k5, zkQ k1])
def zJ (t : Tm) : Fn prog 172 [tmA t] (iv (ckT t)) := by
 refine xV func172 ntmps172 (fun g w d => ?_);apply ye;refine zF ?_;refine yh ?_;apply yg;apply ye;iterate 3 refine ya ?_
 refine xX 3 ?_;refine ym ?_;iterate 3 refine xW ?_
 iterate 2 refine ym ?_
 iterate 3 refine xW ?_
 iterate 2 refine ym ?_
 iterate 3 refine xW ?_
 refine gf ?_ ?_<;>intro Z
 ·refine gq ?_;all_goals (congr 1; unfold ckT; rw [j4 (by omega)])
 have U := zcM (n := t.N) (d := t.D) (by omega);refine gc (zaC t.N t.D (by omega) (by omega) (by omega) (by omega)) ?_;refine gd ?_ ?_<;>intro V
 ·refine gq ?_;all_goals (congr 1; unfold ckT; rw [j3 (by omega), j4 (by omega)])
 refine gq ?_;all_goals (congr 1; unfold ckT; rw [j3 (by omega), j3 (by omega)])
def zbW (n q : Int) (h0 : 0 <= n) (U : n <= 9223372036854775807) (T : 1 <= q) (Q : q <= 9223372036854775807) : Fn prog 148 [iv n, iv q] (.tup [tmA (tmkT n q), iv (tmkE n q)]) := by
 have N := zcM (n := n) (d := q) (by omega);refine xV func148 ntmps148 (fun g w d => ?_);refine gq ?_;refine yM (zaC n q (by omega) (by omega) (by omega) (by omega)) ?_;refine ya ?_;apply yE;iterate 4 refine ya ?_
 apply yE;refine ya ?_;refine yy ?_;apply yg;apply ye;iterate 2 refine ya ?_
 refine xX 2 ?_;refine ym ?_;iterate 2 refine xW ?_
 refine gf ?_ ?_<;>intro Z
 ·have hE : tmkE n q = 4 := by unfold tmkE; rw [j3 (by omega), j3 (by omega), j4 Z]
  have V : tmkT n q = tmZ := by unfold tmkT; rw [j3 (by omega)]
  refine gq ?_;refine yx ty83 ?_ ?_;all_goals (first | exact zE hE | exact zE V)
 have hE : tmkE n q = 0 := by unfold tmkE; rw [j3 (by omega), j3 (by omega), j3 (fun h => by omega)]
 have V : tmkT n q = ⟨n / gI n q, q / gI n q⟩ := by unfold tmkT; rw [j4 hE]
 refine gq ?_;refine yx ty83 ?_ ?_;all_goals (first | exact zE hE | exact zE V)
def zcJ (n q : Int) (h0 : n <= 9223372036854775807) (T : q <= 9223372036854775807) : Fn prog 274 [iv n, iv q] (.tup [tmA (tmkT n q), iv (tmkE n q)]) := by
 refine xV func274 ntmps274 (fun g w d => ?_);apply ye;refine zh ?_;refine yh ?_;apply yg;apply ye;iterate 2 refine ya ?_
 refine xX 2 ?_;refine ym ?_;iterate 2 refine xW ?_
 refine gf ?_ ?_<;>intro V
 ·have hE : tmkE n q = 2 := by unfold tmkE; rw [j4 V]
  have Z : tmkT n q = tmZ := by unfold tmkT; rw [j3 (by omega)]
  refine gq ?_;refine yx ty83 ?_ ?_;all_goals (first | rfl | exact zE hE | exact zE Z)
 refine gd ?_ ?_<;>intro U
 ·have hE : tmkE n q = 5 := by unfold tmkE; rw [j3 (by omega), j4 U]
  have Z : tmkT n q = tmZ := by unfold tmkT; rw [j3 (by omega)]
  refine gq ?_;refine yx ty83 ?_ ?_;all_goals (first | rfl | exact zE hE | exact zE Z)
 refine gc (zbW n q (by omega) (by omega) (by omega) (by omega)) ?_;refine yx ty83 ?_ ?_;all_goals (first | rfl | exact zE hE | exact zE Z)
def zQ (a b : Tm) : Fn prog 147 [tmA a, tmA b] (iv (yI [a, b])) := by
 refine xV func147 ntmps147 (fun g w d => ?_);refine gc (zJ a) ?_;refine gd ?_ ?_<;>intro Z
 ·refine gq ?_;all_goals (congr 1; rw [zjO, j3 Z])
 refine gc (zJ b) ?_;all_goals (congr 1; rw [zjO, j4 Z])
def z6 (a b : Tm) : Fn prog 277 [tmA a, tmA b] (.tup [tmA (subV a b), iv (subE a b)]) := by
 refine xV func277 ntmps277 (fun g w d => ?_);refine gc (zQ a b) ?_;refine gd ?_ ?_<;>intro Z
 ·have hE : subE a b = yI [a, b] := by unfold subE; rw [j3 Z]
  have V : subV a b = tmZ := by unfold subV; rw [j3 Z]
  refine gq ?_;refine yx ty83 ?_ ?_;all_goals (first | exact zE hE | exact zE V)
 have U := zbX Z;have b1 := zaj U.1;have b2 := zaj U.2;have m1 := mulB b1.1 b1.2.1 b2.2.2.1 b2.2.2.2.1;have m2 := mulB b2.1 b2.2.1 b1.2.2.1 b1.2.2.2.1;have m3 := mulB b1.2.2.1 b1.2.2.2.1 b2.2.2.1 b2.2.2.2.1;have m4 := mulP b1.2.2.2.2.1 b2.2.2.2.2.1;have hE : subE a b = tmkE (a.N * b.D - b.N * a.D) (a.D * b.D) := by unfold subE; rw [j4 Z]
 have V : subV a b = tmkT (a.N * b.D - b.N * a.D) (a.D * b.D) := by unfold subV; rw [j4 Z]
 refine gd ?_ ?_<;>intro T
 ·have Q : tmkE (a.N * b.D - b.N * a.D) (a.D * b.D) = 2 := by unfold tmkE; rw [j4 (by omega)]
  have J : tmkT (a.N * b.D - b.N * a.D) (a.D * b.D) = tmZ := by unfold tmkT; rw [j3 (by omega)]
  rw [Q] at hE;rw [J] at V;refine gq ?_;refine yx ty83 ?_ ?_;all_goals (first | exact zE hE | exact zE V)
 refine gc (zbW (a.N * b.D - b.N * a.D) (a.D * b.D) (by omega) (by omega) (by omega) (by omega)) ?_;refine yx ty83 ?_ ?_;all_goals (first | exact zE hE | exact zE V)
def zbM (a b : Tm) : Fn prog 309 [tmA a, tmA b] (.tup [iv (cmpV a b), iv (yI [a, b])]) := by
 refine xV func309 ntmps309 (fun g w d => ?_);refine gc (zQ a b) ?_;refine gd ?_ ?_<;>intro Z
 ·have V : cmpV a b = 0 := by unfold cmpV; rw [j3 Z]
  refine gq ?_;refine yj ?_ ?_;all_goals (first | exact zE V | rfl | exact zE Z)
 have U := zbX Z;have b1 := zaj U.1;have b2 := zaj U.2;have m1 := mulB b1.1 b1.2.1 b2.2.2.1 b2.2.2.2.1;have m2 := mulB b2.1 b2.2.1 b1.2.2.1 b1.2.2.2.1;have m3 := mulB b1.2.2.1 b1.2.2.2.1 b2.2.2.1 b2.2.2.2.1;have m4 := mulP b1.2.2.2.2.1 b2.2.2.2.2.1;refine gq ?_;refine yW [7,8,15,16,17,18,19,20,21,22,23,24] [0,1,0,4,15,0,32,0,128,480,31,2047] mo ?_;iterate 12 refine yb ?_
 refine yA ?_;refine gd ?_ ?_<;>intro T
 ·have V : cmpV a b = -1 := by unfold cmpV; rw [j4 Z, j4 (by omega)]
  refine gq ?_;refine yj ?_ ?_;all_goals (first | exact zE V | rfl | exact zE Z)
 refine gd ?_ ?_<;>intro Q
 ·have V : cmpV a b = 1 := by unfold cmpV; rw [j4 Z, j3 (by omega), j4 (by omega)]
  refine gq ?_;refine yj ?_ ?_;all_goals (first | exact zE V | rfl | exact zE Z)
 have V : cmpV a b = 0 := by unfold cmpV; rw [j4 Z, j3 (by omega), j3 (by omega)]
 refine gq ?_;refine yj ?_ ?_;all_goals (first | exact zE V | rfl | exact zE Z)
end
end Go.Rse
