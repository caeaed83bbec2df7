/-
  Walks: times computed with (the program's span).
-/
import Derived.Test.YtggdlojopkoegaaGreatDoorOJTime
set_option linter.unusedSimpArgs false
set_option linter.unusedVariables false
namespace Go.Rse
open Go Go.Proofs
attribute [local irreducible] Pur yz yA Ex X Fn Imp LeV LeB FnO It yE
attribute [local irreducible] gI
theorem zei (a b : Int) (h0 : 0 <= a) (h1 : a <= 9223372036854775807) (h2 : 0 < b) : Fn Tryz.prog 165 [iv a, iv b] (.tup [iv (a / b), iv (a % b)]) := by
 refine Fn.go Tryz.func165 Tryz.ntmps165 (fun g w d => ?_);apply yb;refine yg ?_;apply yd;refine zv [4,5,6,7,8,9,10,11] [0,0,3,0,0,24,7,127] mo ?_;iterate 8 refine yi ?_
 refine y4 ?_;apply Ex.nil;refine X.ret ?_;refine yy ?_ ?_;all_goals (first | rfl | (simp_all; done))
theorem zaQ (a b : Int) (h0 : 0 <= a) (h1 : a <= 9223372036854775807) (h2 : 0 <= b) (h3 : b <= 9223372036854775807) : Fn Tryz.prog 140 [iv a, iv b] (iv (gI a b)) := by
 induction hn : b.toNat using Nat.strongRecOn generalizing a b
 rename_i n ih;refine Fn.go Tryz.func140 Tryz.ntmps140 (fun g w d => ?_);apply yb;refine ye ?_;apply yd;apply yb;refine yg ?_;refine yk rfl ?_ ?_<;>intro hc1
 ·apply yb;refine yg ?_;refine X.ret ?_;refine yh ?_;all_goals (rw [hc1, zkq h0])
 have hb0 : 0 < b := by omega
 have e0 := Int.emod_nonneg a (show b ≠ 0 by omega);have e1 := Int.emod_lt_of_pos a hb0;apply yf;apply yb;iterate 2 refine ya ?_
 refine ym (zei a b h0 h1 hb0) ?_;iterate 5 refine ya ?_
 apply yj;iterate 2 refine ya ?_
 refine ym (ih (a % b).toNat (by omega) b (a % b) h2 h3 e0 (by omega) rfl) ?_;refine ye ?_;refine X.ret ?_;refine yh ?_;all_goals (rw [zkr h0 hb0])
theorem zbi (t : Tm) : Fn Tryz.prog 93 [tmA t] (iv (ckT t)) := by
 refine Fn.go Tryz.func93 Tryz.ntmps93 (fun g w d => ?_);apply yb;refine yD ?_;refine ye ?_;apply yd;apply X.block;apply yb;iterate 3 refine ya ?_
 refine ExF.at 3 ?_;refine yO ?_;iterate 3 refine ExF.gi ?_
 iterate 2 refine yO ?_
 iterate 3 refine ExF.gi ?_
 iterate 2 refine yO ?_
 iterate 3 refine ExF.gi ?_
 refine yF ?_;refine yg ?_;refine yk rfl ?_ ?_<;>intro hc1
 ·apply yb;refine ye ?_;refine X.ret ?_;refine yh ?_;all_goals (congr 1; unfold ckT; rw [if_pos (by omega)])
 apply yb;iterate 4 refine ya ?_
 refine ym (zaQ t.N t.D (by omega) (by omega) (by omega) (by omega)) ?_;refine yg ?_;refine yk rfl ?_ ?_<;>intro hc2
 ·apply yb;refine ye ?_;refine X.ret ?_;refine yh ?_;all_goals (congr 1; unfold ckT; rw [if_neg (by omega), if_pos hc2])
 apply yf;apply yb;refine ye ?_;refine X.ret ?_;refine yh ?_;all_goals (congr 1; unfold ckT; rw [if_neg (by omega), if_neg (by omega)])
theorem zY (l : List Tm) (hl : l.length <= 4000000000) : Fn Tryz.prog 120 [tmsA l] (iv (yT l)) := by
 refine Fn.go Tryz.func120 Tryz.ntmps120 (fun g w d => ?_);apply yb;refine ye ?_;apply yd;apply yb;refine yo ?_;apply X.block
 refine zj (ι := Nat) (fun (k : Nat) => [(6, tmsA l), (7, iv l.length), (8, iv (k : Int))]) (fun (k : Nat) => []) (fun (k : Nat) => k <= l.length /\ yT l = yT (l.drop k)) (fun (k : Nat) => l.length - k) 0 (fun k hk => ?_) (hJ := by
  exact ⟨by omega, rfl⟩)
 obtain ⟨hk1, hk2⟩ := hk;apply yb;refine ye ?_;apply yd;refine yk rfl ?_ ?_<;>intro hc1
 ·obtain ⟨t, ht⟩ : ∃ t, l[k]? = some t := ⟨_, lgg (by omega)⟩;have ht2 : l[(k : Int).toNat]? = some t := by simpa using ht
  apply yf;apply yd;apply X.block;apply yb;iterate 2 refine ya ?_
  refine yC ?_;refine Ex.mo ?_;apply yj;refine ya ?_;refine ym (zbi t) ?_;refine ya ?_;apply yj;refine yg ?_;refine yk rfl ?_ ?_<;>intro hc2
  ·apply yb;refine yg ?_;refine X.ret ?_;refine yh ?_;all_goals (congr 1; rw [hk2, zbM ht, if_neg hc2])
  apply yf;apply yc;refine yg ?_
  refine yL (k + 1) (hJ := by
   exact ⟨by omega, by rw [hk2, zbM ht, if_pos hc2]⟩)
 ·apply X.exit;apply yb;refine ye ?_;refine X.ret ?_;refine yh ?_;all_goals (congr 1; rw [hk2, List.drop_of_length_le (by omega)]; rfl)
theorem zbL (n q : Int) (h0 : n <= 9223372036854775807) (h1 : q <= 9223372036854775807) (hm : -9223372036854775808 <= n) : Fn Tryz.prog 164 [iv n, iv q] (.tup [tmA (tmkT n q), iv (tmkE n q)]) := by
 refine Fn.go Tryz.func164 Tryz.ntmps164 (fun g w d => ?_);apply yb;refine yC ?_;refine ye ?_;apply yd;apply X.block;apply yb;iterate 2 refine ya ?_
 refine ExF.at 2 ?_;refine yO ?_;iterate 2 refine ExF.gi ?_
 refine yF ?_;refine yg ?_;refine yk rfl ?_ ?_<;>intro hc1
 ·have hE : tmkE n q = 2 := by unfold tmkE; rw [if_pos hc1]
  have hV : tmkT n q = tmZ := by unfold tmkT; rw [if_neg (by omega)]
  apply yb;refine ya ?_;refine Ex.mo ?_;refine ye ?_;refine X.ret ?_;refine yY ty40 ?_ ?_;all_goals (first | (rw [hE]; done) | (rw [hV]; rfl) | (rw [hE]; rfl) | (rw [hV]; done))
 apply yb;refine yo ?_;refine yk rfl ?_ ?_<;>intro hc2
 ·have hE : tmkE n q = 5 := by unfold tmkE; rw [if_neg (by omega), if_pos hc2]
  have hV : tmkT n q = tmZ := by unfold tmkT; rw [if_neg (by omega)]
  apply yb;refine ya ?_;refine Ex.mo ?_;refine ye ?_;refine X.ret ?_;refine yY ty40 ?_ ?_;all_goals (first | (rw [hE]; done) | (rw [hV]; rfl) | (rw [hE]; rfl) | (rw [hV]; done))
 have hg := zf9 (n := n) (d := q) (by omega);apply yf;apply yb;iterate 2 refine ya ?_
 refine ym (zaQ n q (by omega) (by omega) (by omega) (by omega)) ?_;refine ye ?_;apply yd;refine zv [7,23,24,25,26,27,28,29] [0,0,3,0,0,24,63,0,255] mo ?_;iterate 7 refine yi ?_
 refine ChM.step rfl rfl rfl (za9 (k := 7) zc40) rfl ?_;refine y4 ?_;refine Ex.mo ?_;apply Ex.nil;apply yd;apply yb;iterate 3 refine ya ?_
 refine ExF.at 3 ?_;refine yO ?_;iterate 3 refine ExF.gi ?_
 refine yF ?_;refine ye ?_;refine yk rfl ?_ ?_<;>intro hc3
 ·have hE : tmkE n q = 4 := by unfold tmkE; rw [if_neg (by omega), if_neg (by omega), if_pos hc3]
  have hV : tmkT n q = tmZ := by unfold tmkT; rw [if_neg (by omega)]
  apply yb;refine ya ?_;refine Ex.mo ?_;refine ye ?_;refine X.ret ?_;refine yY ty40 ?_ ?_;all_goals (first | (rw [hE]; done) | (rw [hV]; rfl) | (rw [hE]; rfl) | (rw [hV]; done))
 have hE : tmkE n q = 0 := by unfold tmkE; rw [if_neg (by omega), if_neg (by omega), if_neg (fun h => by omega)]
 have hV : tmkT n q = ⟨n / gI n q, q / gI n q⟩ := by unfold tmkT; rw [if_pos hE]
 apply yf;apply yb;refine ya ?_;refine Ex.mo ?_;refine ye ?_;refine X.ret ?_;refine yY ty40 ?_ ?_;all_goals (first | (rw [hE]; done) | (rw [hV]; rfl) | (rw [hE]; rfl) | (rw [hV]; done))
theorem zaz (a b : Tm) : Fn Tryz.prog 117 [tmA a, tmA b] (.tup [tmA (addV a b), iv (addE a b)]) := by
 refine Fn.go Tryz.func117 Tryz.ntmps117 (fun g w d => ?_);apply yb;iterate 2 refine yD ?_
 refine yC ?_;refine ye ?_;apply yd;apply yb;iterate 2 refine ya ?_
 refine yQ tmE [⟨_, _⟩, ⟨_, _⟩] ?_;refine Ex.imp (Imp.freeze (k := 9) rfl) ?_;refine ym (zY [a, b] (by simp)) ?_;refine ya ?_;apply yj;refine yg ?_;refine yk rfl ?_ ?_<;>intro hc1
 ·have hE : addE a b = yT [a, b] := by unfold addE; rw [if_neg hc1]
  have hV : addV a b = tmZ := by unfold addV; rw [if_neg hc1]
  apply yb;iterate 2 refine ya ?_
  refine Ex.mo ?_;refine ye ?_;refine X.ret ?_;refine yY ty40 ?_ ?_;all_goals (first | (rw [hE]; done) | (rw [hV]; rfl) | (unfold addE; rw [if_pos hc1]; done) | (unfold addV; rw [if_pos hc1]; done) | (unfold addV; rw [if_pos hc1]; rfl))
 have h12 := zeH hc1;have b1 := zcy h12.1;have b2 := zcy h12.2;have m1 := mulB b1.1 b1.2.1 b2.2.2.1 b2.2.2.2.1;have m2 := mulB b2.1 b2.2.1 b1.2.2.1 b1.2.2.2.1;have m3 := mulB b1.2.2.1 b1.2.2.2.1 b2.2.2.1 b2.2.2.2.1;have m4 := mulP b1.2.2.2.2.1 b2.2.2.2.2.1;apply yf;apply yb;iterate 16 refine ya ?_
 refine ym (zbL (a.N * b.D + b.N * a.D) (a.D * b.D) (by omega) (by omega) (by omega)) ?_;iterate 2 refine ya ?_
 refine Ex.mo ?_;refine ye ?_;refine X.ret ?_;refine yY ty40 ?_ ?_;all_goals (first | (rw [hE]; done) | (rw [hV]; rfl) | (unfold addE; rw [if_pos hc1]; done) | (unfold addV; rw [if_pos hc1]; done) | (unfold addV; rw [if_pos hc1]; rfl))
theorem zbv (a b : Tm) : Fn Tryz.prog 281 [tmA a, tmA b] (.tup [tmA (subV a b), iv (subE a b)]) := by
 refine Fn.go Tryz.func281 Tryz.ntmps281 (fun g w d => ?_);apply yb;iterate 2 refine yD ?_
 refine yC ?_;refine ye ?_;apply yd;apply yb;iterate 2 refine ya ?_
 refine yQ tmE [⟨_, _⟩, ⟨_, _⟩] ?_;refine Ex.imp (Imp.freeze (k := 9) rfl) ?_;refine ym (zY [a, b] (by simp)) ?_;refine ya ?_;apply yj;refine yg ?_;refine yk rfl ?_ ?_<;>intro hc1
 ·have hE : subE a b = yT [a, b] := by unfold subE; rw [if_neg hc1]
  have hV : subV a b = tmZ := by unfold subV; rw [if_neg hc1]
  apply yb;iterate 2 refine ya ?_
  refine Ex.mo ?_;refine ye ?_;refine X.ret ?_;refine yY ty40 ?_ ?_;all_goals (first | (rw [hE]; done) | (rw [hV]; rfl) | (unfold subE; rw [if_pos hc1]; done) | (unfold subV; rw [if_pos hc1]; done) | (unfold subV; rw [if_pos hc1]; rfl))
 have h12 := zeH hc1;have b1 := zcy h12.1;have b2 := zcy h12.2;have m1 := mulB b1.1 b1.2.1 b2.2.2.1 b2.2.2.2.1;have m2 := mulB b2.1 b2.2.1 b1.2.2.1 b1.2.2.2.1;have m3 := mulB b1.2.2.1 b1.2.2.2.1 b2.2.2.1 b2.2.2.2.1;have m4 := mulP b1.2.2.2.2.1 b2.2.2.2.2.1;apply yf;apply yb;iterate 16 refine ya ?_
 refine ym (zbL (a.N * b.D - b.N * a.D) (a.D * b.D) (by omega) (by omega) (by omega)) ?_;iterate 2 refine ya ?_
 refine Ex.mo ?_;refine ye ?_;refine X.ret ?_;refine yY ty40 ?_ ?_;all_goals (first | (rw [hE]; done) | (rw [hV]; rfl) | (unfold subE; rw [if_pos hc1]; done) | (unfold subV; rw [if_pos hc1]; done) | (unfold subV; rw [if_pos hc1]; rfl))
theorem zej (a b c q : Int) (a0 : 0 <= a) (a1 : a <= 1099511627776) (b0 : 1 <= b) (b1 : b <= 1099511627776) (c0 : 0 <= c) (c1 : c <= 1099511627776) (d0 : 1 <= q) (d1 : q <= 1099511627776) : Fn Tryz.prog 269 [iv a, iv b, iv c, iv q] (.tup [tmA (tmsV a b c q), iv (tmsE a b c q)]) := by
 have hg := zf9 (n := a) (d := q) (by omega);have hh := zf9 (n := c) (d := b) (by omega);have qa := Int.ediv_nonneg a0 (Int.le_of_lt hg);have qb := Int.ediv_nonneg (show 0 <= b by omega) (Int.le_of_lt hh);have qc := Int.ediv_nonneg c0 (Int.le_of_lt hh);have qd := Int.ediv_nonneg (show 0 <= q by omega) (Int.le_of_lt hg);have ra := Int.ediv_le_self (gI a q) a0;have rb := Int.ediv_le_self (gI c b) (show 0 <= b by omega);have rc := Int.ediv_le_self (gI c b) c0;have rd := Int.ediv_le_self (gI a q) (show 0 <= q by omega);have hE : tmsE a b c q = if bigQ (a / gI a q) (b / gI c b) (c / gI c b) (q / gI a q) then 4 else tmkE (a / gI a q * (c / gI c b)) (b / gI c b * (q / gI a q)) := rfl
 have hV : tmsV a b c q = if bigQ (a / gI a q) (b / gI c b) (c / gI c b) (q / gI a q) then tmZ else tmkT (a / gI a q * (c / gI c b)) (b / gI c b * (q / gI a q)) := rfl
 rw [hE, hV];refine Fn.go Tryz.func269 Tryz.ntmps269 (fun g w d => ?_);apply yb;refine yC ?_;refine ya ?_;apply yj;iterate 2 refine ya ?_
 refine ym (zaQ a q (by omega) (by omega) (by omega) (by omega)) ?_;iterate 2 refine ya ?_
 refine ym (zaQ c b (by omega) (by omega) (by omega) (by omega)) ?_;refine yg ?_;apply yd;refine X.drawP [⟨0, 18, iv a, []⟩, ⟨1, 19, iv (gI a q), []⟩, ⟨2, 20, iv (a / gI a q), [1, 0]⟩, ⟨3, 21, iv q, []⟩, ⟨4, 22, iv (gI a q), []⟩, ⟨5, 23, iv (q / gI a q), [4, 3]⟩, ⟨6, 24, iv c, []⟩, ⟨7, 25, iv (gI c b), []⟩, ⟨8, 26, iv (c / gI c b), [7, 6]⟩, ⟨9, 27, iv b, []⟩, ⟨10, 28, iv (gI c b), []⟩, ⟨11, 29, iv (b / gI c b), [10, 9]⟩] [(12, [1, 0, 2]), (13, [4, 3, 2, 1, 0, 12, 5]), (14, [12, 7, 6, 5, 4, 3, 2, 1, 0, 13, 8]), (15, [13, 12, 10, 9, 8, 7, 6, 5, 4, 3, 2, 1, 0, 14, 11])] (fun j => match j with | 0 => ⟨[(0, iv (a)), (1, iv (b)), (2, iv (c)), (3, iv (q)), (8, .ptr 8 0 0 0), (10, iv (gI a q)), (11, iv (gI c b))], [(8, .box [iv 0, iv 0] 40)]⟩ | 1 => ⟨[(0, iv (a / gI a q)), (1, iv (b)), (2, iv (c)), (3, iv (q)), (8, .ptr 8 0 0 0), (10, iv (gI a q)), (11, iv (gI c b))], [(8, .box [iv 0, iv 0] 40)]⟩ | 2 => ⟨[(0, iv (a / gI a q)), (1, iv (b)), (2, iv (c)), (3, iv (q / gI a q)), (8, .ptr 8 0 0 0), (10, iv (gI a q)), (11, iv (gI c b))], [(8, .box [iv 0, iv 0] 40)]⟩ | 3 => ⟨[(0, iv (a / gI a q)), (1, iv (b)), (2, iv (c / gI c b)), (3, iv (q / gI a q)), (8, .ptr 8 0 0 0), (10, iv (gI a q)), (11, iv (gI c b))], [(8, .box [iv 0, iv 0] 40)]⟩ | _ => ⟨[(0, iv (a / gI a q)), (1, iv (b / gI c b)), (2, iv (c / gI c b)), (3, iv (q / gI a q)), (8, .ptr 8 0 0 0), (10, iv (gI a q)), (11, iv (gI c b))], [(8, .box [iv 0, iv 0] 40)]⟩) mo (by kernel_rfl) (zbk (yn)) (fun j hj => ?_) (fun j c hc β hβ => ?_) ?_
 ·rcases j with _ | _ | _ | _ | _ | j
  ·(iterate 12 refine ⟨.inr ⟨_, rfl, rfl, rfl, rfl, zp⟩, ?_⟩);exact True.intro
  ·(iterate 3 refine ⟨.inl rfl, ?_⟩);(iterate 9 refine ⟨.inr ⟨_, rfl, rfl, rfl, rfl, zp⟩, ?_⟩);exact True.intro
  ·(iterate 6 refine ⟨.inl rfl, ?_⟩);(iterate 6 refine ⟨.inr ⟨_, rfl, rfl, rfl, rfl, zp⟩, ?_⟩);exact True.intro
  ·(iterate 9 refine ⟨.inl rfl, ?_⟩);(iterate 3 refine ⟨.inr ⟨_, rfl, rfl, rfl, rfl, zp⟩, ?_⟩);exact True.intro
  ·(iterate 12 refine ⟨.inl rfl, ?_⟩);exact True.intro
  ·exact absurd (show j + 5 <= 4 from hj) (by omega)
 ·rcases j with _ | _ | _ | _ | j
  ·obtain rfl : (12, [1, 0, 2]) = c := by injection hc
   refine yr rfl (yS (st0 := ⟨[(18, iv a), (19, iv (gI a q)), (20, iv (a / gI a q)), (21, .ifb (β 3) (iv q)), (22, .ifb (β 4) (iv (gI a q))), (23, .ifb (β 5) (iv (q / gI a q))), (24, .ifb (β 6) (iv c)), (25, .ifb (β 7) (iv (gI c b))), (26, .ifb (β 8) (iv (c / gI c b))), (27, .ifb (β 9) (iv b)), (28, .ifb (β 10) (iv (gI c b))), (29, .ifb (β 11) (iv (b / gI c b))), (0, iv (a)), (1, iv (b)), (2, iv (c)), (3, iv (q)), (8, .ptr 8 0 0 0), (10, iv (gI a q)), (11, iv (gI c b))], [(8, .box [iv 0, iv 0] 40)]⟩) (yM) ?_);refine yA.imp (yx (Pur.stepA (zcT rfl)) rfl rfl) (yM)
  ·obtain rfl : (13, [4, 3, 2, 1, 0, 12, 5]) = c := by injection hc
   refine yr rfl (yS (st0 := ⟨[(18, iv a), (19, iv (gI a q)), (20, iv (a / gI a q)), (21, iv q), (22, iv (gI a q)), (23, iv (q / gI a q)), (24, .ifb (β 6) (iv c)), (25, .ifb (β 7) (iv (gI c b))), (26, .ifb (β 8) (iv (c / gI c b))), (27, .ifb (β 9) (iv b)), (28, .ifb (β 10) (iv (gI c b))), (29, .ifb (β 11) (iv (b / gI c b))), (0, iv (a / gI a q)), (1, iv (b)), (2, iv (c)), (3, iv (q)), (8, .ptr 8 0 0 0), (10, iv (gI a q)), (11, iv (gI c b))], [(8, .box [iv 0, iv 0] 40)]⟩) (yM) ?_);refine yA.imp (yx (Pur.stepA (zcT rfl)) rfl rfl) (yM)
  ·obtain rfl : (14, [12, 7, 6, 5, 4, 3, 2, 1, 0, 13, 8]) = c := by injection hc
   refine yr rfl (yS (st0 := ⟨[(18, iv a), (19, iv (gI a q)), (20, iv (a / gI a q)), (21, iv q), (22, iv (gI a q)), (23, iv (q / gI a q)), (24, iv c), (25, iv (gI c b)), (26, iv (c / gI c b)), (27, .ifb (β 9) (iv b)), (28, .ifb (β 10) (iv (gI c b))), (29, .ifb (β 11) (iv (b / gI c b))), (0, iv (a / gI a q)), (1, iv (b)), (2, iv (c)), (3, iv (q / gI a q)), (8, .ptr 8 0 0 0), (10, iv (gI a q)), (11, iv (gI c b))], [(8, .box [iv 0, iv 0] 40)]⟩) (yM) ?_);refine yA.imp (yx (Pur.stepA (zcT rfl)) rfl rfl) (yM)
  ·obtain rfl : (15, [13, 12, 10, 9, 8, 7, 6, 5, 4, 3, 2, 1, 0, 14, 11]) = c := by injection hc
   refine yr rfl (yS (st0 := ⟨[(18, iv a), (19, iv (gI a q)), (20, iv (a / gI a q)), (21, iv q), (22, iv (gI a q)), (23, iv (q / gI a q)), (24, iv c), (25, iv (gI c b)), (26, iv (c / gI c b)), (27, iv b), (28, iv (gI c b)), (29, iv (b / gI c b)), (0, iv (a / gI a q)), (1, iv (b)), (2, iv (c / gI c b)), (3, iv (q / gI a q)), (8, .ptr 8 0 0 0), (10, iv (gI a q)), (11, iv (gI c b))], [(8, .box [iv 0, iv 0] 40)]⟩) (yM) ?_);refine yA.imp (yx (Pur.stepA (zcT rfl)) rfl rfl) (yM)
  ·exact absurd hc (by simp)
 iterate 2 apply yd
 generalize a / gI a q = a2 at *
 generalize b / gI c b = b2 at *
 generalize c / gI c b = c2 at *
 generalize q / gI a q = d2 at *
 apply yc;iterate 2 refine ya ?_
 refine ExF.at 2 ?_;refine yO ?_;iterate 4 refine ExF.gi ?_
 iterate 2 refine yO ?_
 iterate 8 refine ExF.gi ?_
 refine yF ?_;refine ye ?_;refine yk rfl ?_ ?_<;>intro hc1
 ·have hq : bigQ a2 b2 c2 d2 := hc1;apply yb;refine ya ?_;refine Ex.mo ?_;refine ye ?_;refine X.ret ?_;refine yY ty40 ?_ ?_;all_goals (first | (rw [if_neg hq]; done) | (rw [if_neg hq]; rfl) | (rw [if_pos hq]; done) | (rw [if_pos hq]; rfl))
 have hq : ¬ bigQ a2 b2 c2 d2 := fun h => by unfold bigQ at h; omega
 have z1 : 0 <= a2 * c2 := Int.mul_nonneg qa qc
 have z2 : a2 * c2 <= 1099511627776 := by
  by_cases h : 0 < a2
  ·exact zhc h (by decide) (fun h2 => hq (.inl ⟨h, h2⟩))
  ·rw [show a2 = 0 by omega]; simp
 have z3 : b2 * d2 <= 1048576 := by
  by_cases h : 0 < d2
  ·rw [Int.mul_comm]; exact zhc h (by decide) (fun h2 => hq (.inr ⟨h, h2⟩))
  ·rw [show d2 = 0 by omega]; simp
 have hm0 : -9223372036854775808 <= a2 * c2 := by omega
 have hm1 : a2 * c2 <= 9223372036854775807 := by omega
 have hm2 : b2 * d2 <= 9223372036854775807 := by omega
 have z4 : 0 <= b2 * d2 := Int.mul_nonneg qb qd;apply yf;apply yb;iterate 6 refine ya ?_
 refine ym (zbL _ _ hm1 hm2 hm0) ?_;iterate 2 refine ya ?_
 refine Ex.mo ?_;refine ye ?_;refine X.ret ?_;refine yY ty40 ?_ ?_;all_goals (first | (rw [if_neg hq]; done) | (rw [if_neg hq]; rfl) | (rw [if_pos hq]; done) | (rw [if_pos hq]; rfl))
theorem zcl (a b : Tm) : Fn Tryz.prog 204 [tmA a, tmA b] (.tup [tmA (mulV a b), iv (mulE a b)]) := by
 refine Fn.go Tryz.func204 Tryz.ntmps204 (fun g w d => ?_);apply yb;iterate 2 refine yD ?_
 refine yC ?_;refine ye ?_;apply yd;apply yb;iterate 2 refine ya ?_
 refine yQ tmE [⟨_, _⟩, ⟨_, _⟩] ?_;refine Ex.imp (Imp.freeze (k := 9) rfl) ?_;refine ym (zY [a, b] (by simp)) ?_;refine ya ?_;apply yj;refine yg ?_;refine yk rfl ?_ ?_<;>intro hc1
 ·have hE : mulE a b = yT [a, b] := by unfold mulE; rw [if_neg hc1]
  have hV : mulV a b = tmZ := by unfold mulV; rw [if_neg hc1]
  apply yb;iterate 2 refine ya ?_
  refine Ex.mo ?_;refine ye ?_;refine X.ret ?_;refine yY ty40 ?_ ?_;all_goals (first | (rw [hE]; done) | (rw [hV]; rfl) | (unfold mulE; rw [if_pos hc1]; done) | (unfold mulV; rw [if_pos hc1]; done) | (unfold mulV; rw [if_pos hc1]; rfl))
 have h12 := zeH hc1;have b1 := zcy h12.1;have b2 := zcy h12.2;have m1 := mulB b1.1 b1.2.1 b2.2.2.1 b2.2.2.2.1;have m2 := mulB b2.1 b2.2.1 b1.2.2.1 b1.2.2.2.1;have m3 := mulB b1.2.2.1 b1.2.2.2.1 b2.2.2.1 b2.2.2.2.1;have m4 := mulP b1.2.2.2.2.1 b2.2.2.2.2.1;apply yf;apply yb;iterate 8 refine ya ?_
 refine ym (zej a.N a.D b.N b.D b1.1 b1.2.1 b1.2.2.2.2.1 (by omega) b2.1 b2.2.1 b2.2.2.2.2.1 (by omega)) ?_;iterate 2 refine ya ?_
 refine Ex.mo ?_;refine ye ?_;refine X.ret ?_;refine yY ty40 ?_ ?_;all_goals (first | (rw [hE]; done) | (rw [hV]; rfl) | (unfold mulE; rw [if_pos hc1]; done) | (unfold mulV; rw [if_pos hc1]; done) | (unfold mulV; rw [if_pos hc1]; rfl))
theorem zfZ (a b : Tm) : Fn Tryz.prog 388 [tmA a, tmA b] (.tup [iv (cmpV a b), iv (yT [a, b])]) := by
 refine Fn.go Tryz.func388 Tryz.ntmps388 (fun g w d => ?_);apply yb;iterate 2 refine yD ?_
 refine yg ?_;apply yd;apply yb;iterate 2 refine ya ?_
 refine yQ tmE [⟨_, _⟩, ⟨_, _⟩] ?_;refine Ex.imp (Imp.freeze (k := 10) rfl) ?_;refine ym (zY [a, b] (by simp)) ?_;refine ya ?_;apply yj;refine yg ?_;refine yk rfl ?_ ?_<;>intro hc1
 ·have hV : cmpV a b = 0 := by unfold cmpV; rw [if_neg hc1]
  apply yb;refine yo ?_;refine X.ret ?_;refine yy ?_ ?_;all_goals (first | (rw [hV]; done) | rfl | (rw [hc1]; done))
 have h12 := zeH hc1;have b1 := zcy h12.1;have b2 := zcy h12.2;have m1 := mulB b1.1 b1.2.1 b2.2.2.1 b2.2.2.2.1;have m2 := mulB b2.1 b2.2.1 b1.2.2.1 b1.2.2.2.1;have m3 := mulB b1.2.2.1 b1.2.2.2.1 b2.2.2.1 b2.2.2.2.1;have m4 := mulP b1.2.2.2.2.1 b2.2.2.2.2.1;apply yf;apply yd;apply yb;iterate 11 refine ya ?_
 refine ye ?_;apply X.block;apply yb;refine yo ?_;refine yk rfl ?_ ?_<;>intro hc2
 ·have hV : cmpV a b = -1 := by unfold cmpV; rw [if_pos hc1, if_pos (by omega)]
  apply yb;refine yg ?_;refine X.ret ?_;refine yy ?_ ?_;all_goals (first | (rw [hV]; done) | rfl | (rw [hc1]; done))
 apply yb;refine yo ?_;refine yk rfl ?_ ?_<;>intro hc3
 ·have hV : cmpV a b = 1 := by unfold cmpV; rw [if_pos hc1, if_neg (by omega), if_pos (by omega)]
  apply yb;refine yg ?_;refine X.ret ?_;refine yy ?_ ?_;all_goals (first | (rw [hV]; done) | rfl | (rw [hc1]; done))
 have hV : cmpV a b = 0 := by unfold cmpV; rw [if_pos hc1, if_neg (by omega), if_neg (by omega)]
 apply yf;apply yb;refine yg ?_;refine X.ret ?_;refine yy ?_ ?_;all_goals (first | (rw [hV]; done) | rfl | (rw [hc1]; done))
theorem zf0 (l : List Tm) (hl : l.length <= 4000000000) : Fn Tryz.prog 54 [tmsA l] (.tup [tmA (sumV l), iv (sumE l)]) := by
 refine Fn.go Tryz.func54 Tryz.ntmps54 (fun g w d => ?_);apply yb;refine yC ?_;refine ye ?_;apply yd;apply yb;refine ya ?_;refine ym (zY l hl) ?_;refine ya ?_;apply yj;refine yg ?_;refine yk rfl ?_ ?_<;>intro hc1
 ·have hE : sumE l = yT l := by unfold sumE; rw [if_neg hc1]
  have hV : sumV l = tmZ := by unfold sumV; rw [if_neg hc1]
  apply yb;iterate 2 refine ya ?_
  refine Ex.mo ?_;refine ye ?_;refine X.ret ?_;refine yY ty40 ?_ ?_;all_goals (first | (rw [hE]; done) | (rw [hV]; rfl) | (rw [hE]; rfl) | (rw [hV]; done))
 have hE : sumE l = (sumF ⟨0, 1⟩ l).2 := by unfold sumE; rw [if_pos hc1]
 have hV : sumV l = (sumF ⟨0, 1⟩ l).1 := by unfold sumV; rw [if_pos hc1]
 apply yf;apply yb;refine ya ?_;refine yC ?_;refine Ex.mo ?_;apply Ex.nil;apply yd;apply yb;refine yo ?_;apply X.block
 refine zj (ι := Nat × Tm) (fun (p : Nat × Tm) => [(2, .ptr 2 0 0 0), (5, .ptr 5 0 0 0), (16, tmsA l), (17, iv l.length), (18, iv (p.1 : Int))]) (fun (p : Nat × Tm) => [(2, .box [iv 0, iv 0] 40), (5, .box (tmE p.2) 40)]) (fun (p : Nat × Tm) => p.1 <= l.length /\ sumF ⟨0, 1⟩ l = sumF p.2 (l.drop p.1)) (fun (p : Nat × Tm) => l.length - p.1) (0, ⟨0, 1⟩) (fun p hk => ?_) (hJ := by
  exact ⟨by simp, rfl⟩)
 obtain ⟨k, s⟩ := p;obtain ⟨hk1, hk2⟩ := hk;dsimp only at *
 apply yb;refine ye ?_;apply yd;refine yk rfl ?_ ?_<;>intro hc2
 ·obtain ⟨t, ht⟩ : ∃ t, l[k]? = some t := ⟨_, lgg (by omega)⟩;have ht2 : l[(k : Int).toNat]? = some t := by simpa using ht
  apply yf;apply yd;apply X.block;apply yb;iterate 2 refine ya ?_
  refine yC ?_;refine Ex.mo ?_;apply yj;refine ya ?_;apply yj;iterate 2 refine ya ?_
  refine ym (zaz s t) ?_;iterate 3 refine ya ?_
  refine Ex.mo ?_;refine ya ?_;apply yj;refine yg ?_;refine yk rfl ?_ ?_<;>intro hc3
  ·have hS := zhb (s := s) ht;rw [if_neg hc3] at hS;rw [hk2, hS] at hE hV;apply yb;(iterate 2 refine ya ?_);refine Ex.mo ?_;refine ye ?_;refine X.ret ?_;refine yY ty40 ?_ ?_;all_goals (first | (rw [hE]; done) | (rw [hV]; rfl) | (rw [hE]; rfl) | (rw [hV]; done))
  apply yf;apply yc;refine yg ?_
  refine yL ((k + 1, addV s t)) (hJ := by
   exact ⟨by dsimp only; omega, by rw [hk2, zhb ht, if_pos hc3]⟩)
 ·rw [hk2, List.drop_of_length_le (by omega)] at hE hV;apply X.exit;apply yb;refine ya ?_;refine Ex.mo ?_;refine ye ?_;refine X.ret ?_;refine yY ty40 ?_ ?_;all_goals (first | (rw [hE]; done) | (rw [hV]; rfl) | (rw [hE]; rfl) | (rw [hV]; done))
theorem zh3 (a b : Tm) : Fn Tryz.prog 118 [tmA a, tmA b] (.tup [iv (whQ a b), tmA (whR a b), iv (whE a b)]) := by
 refine Fn.go Tryz.func118 Tryz.ntmps118 (fun g w d => ?_);apply yb;iterate 2 refine yD ?_
 refine ya ?_;refine yC ?_;refine ye ?_;apply yd;apply yb;iterate 2 refine ya ?_
 refine yQ tmE [⟨_, _⟩, ⟨_, _⟩] ?_;refine Ex.imp (Imp.freeze (k := 14) rfl) ?_;refine ym (zY [a, b] (by simp)) ?_;refine ya ?_;apply yj;refine yg ?_;refine yk rfl ?_ ?_<;>intro hc1
 ·have hE : whE a b = yT [a, b] := by unfold whE; rw [if_neg hc1]
  have hQ : whQ a b = 0 := by unfold whQ; rw [if_neg (by omega)]
  have hV : whR a b = tmZ := by unfold whR; rw [if_neg (by omega)]
  apply yb;iterate 3 refine ya ?_
  refine Ex.mo ?_;refine ye ?_;refine X.ret ?_;refine RetQ.ret (.many (by decide) (.cons (.tmp rfl (LeV.eq ?_)) (.cons (.cellA rfl rfl rfl rfl ty40 (LeV.eq ?_)) (.cons (.tmp rfl (LeV.eq ?_)) .nil))));all_goals (first | (rw [hQ]; done) | (rw [hE]; done) | (rw [hV]; rfl) | (rw [hV]; done) | (rw [hE, hc3]; done) | (rw [hE]; rfl) | (rw [hQ]; rfl))
 have h12 := zeH hc1;have b1 := zcy h12.1;have b2 := zcy h12.2;have m1 := mulB b1.1 b1.2.1 b2.2.2.1 b2.2.2.2.1;have m2 := mulB b2.1 b2.2.1 b1.2.2.1 b1.2.2.2.1;have m3 := mulB b1.2.2.1 b1.2.2.2.1 b2.2.2.1 b2.2.2.2.1;have m4 := mulP b1.2.2.2.2.1 b2.2.2.2.2.1;apply yf;apply yd;apply yb;refine yo ?_;refine yk rfl ?_ ?_<;>intro hc2
 ·have hE : whE a b = 5 := by unfold whE; rw [if_pos hc1, if_pos hc2]
  have hQ : whQ a b = 0 := by unfold whQ; rw [if_neg (by omega)]
  have hV : whR a b = tmZ := by unfold whR; rw [if_neg (by omega)]
  apply yb;iterate 2 refine ya ?_
  refine Ex.mo ?_;refine ye ?_;refine X.ret ?_;refine RetQ.ret (.many (by decide) (.cons (.tmp rfl (LeV.eq ?_)) (.cons (.cellA rfl rfl rfl rfl ty40 (LeV.eq ?_)) (.cons (.tmp rfl (LeV.eq ?_)) .nil))));all_goals (first | (rw [hQ]; done) | (rw [hE]; done) | (rw [hV]; rfl) | (rw [hV]; done) | (rw [hE, hc3]; done) | (rw [hE]; rfl) | (rw [hQ]; rfl))
 have hE : whE a b = tmkE (a.N * b.D % (b.N * a.D)) (a.D * b.D) := by unfold whE; rw [if_pos hc1, if_neg hc2]
 have m5 : 0 < b.N * a.D := by have := mulP (x := b.N) (y := a.D) (by omega) (by omega); omega
 have e0 := Int.emod_nonneg (a.N * b.D) (show b.N * a.D ≠ 0 by omega);have e1 := Int.emod_lt_of_pos (a.N * b.D) m5;apply yf;apply yb;iterate 10 refine ya ?_
 refine ym (zei (a.N * b.D) (b.N * a.D) (by omega) (by omega) m5) ?_;iterate 5 refine ya ?_
 apply yj;iterate 6 refine ya ?_
 refine ym (zbL (a.N * b.D % (b.N * a.D)) (a.D * b.D) (by omega) (by omega) (by omega)) ?_;iterate 3 refine ya ?_
 refine yC ?_;refine Ex.mo ?_;refine ye ?_;apply yd;apply yb;refine yg ?_;refine yk rfl ?_ ?_<;>intro hc3
 ·have hQ : whQ a b = 0 := by unfold whQ; rw [hE, if_neg hc3]
  have hV : whR a b = tmZ := by unfold whR; rw [hE, if_neg hc3]
  apply yb;iterate 3 refine ya ?_
  refine Ex.mo ?_;refine ye ?_;refine X.ret ?_;refine RetQ.ret (.many (by decide) (.cons (.tmp rfl (LeV.eq ?_)) (.cons (.cellA rfl rfl rfl rfl ty40 (LeV.eq ?_)) (.cons (.tmp rfl (LeV.eq ?_)) .nil))));all_goals (first | (rw [hQ]; done) | (rw [hE]; done) | (rw [hV]; rfl) | (rw [hV]; done) | (rw [hE, hc3]; done) | (rw [hE]; rfl) | (rw [hQ]; rfl))
 have hQ : whQ a b = a.N * b.D / (b.N * a.D) := by unfold whQ; rw [hE, if_pos hc3]
 have hV : whR a b = tmkT (a.N * b.D % (b.N * a.D)) (a.D * b.D) := by unfold whR; rw [hE, if_pos hc3]
 apply yf;apply yd;refine zv [4,52,53] [0,0,1,7,15] mo ?_;iterate 3 refine yi ?_
 refine y4 ?_;refine Ex.mo ?_;refine ye ?_;refine X.ret ?_;refine RetQ.ret (.many (by decide) (.cons (.tmp rfl (LeV.eq ?_)) (.cons (.cellA rfl rfl rfl rfl ty40 (LeV.eq ?_)) (.cons (.tmp rfl (LeV.eq ?_)) .nil))));all_goals (first | (rw [hQ]; done) | (rw [hE]; done) | (rw [hV]; rfl) | (rw [hV]; done) | (rw [hE, hc3]; done) | (rw [hE]; rfl) | (rw [hQ]; rfl))
end Go.Rse
namespace Go.Rse
open Go Go.Proofs
attribute [local irreducible] Pur yz yA Ex X Fn Imp LeV LeB FnO It yE
attribute [local irreducible] gI
end Go.Rse
