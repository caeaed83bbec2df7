/-
  Walks: times computed with (the program's span).
-/
import Derived.Test.YtkpbljifckjeoaaGreatDoorQJTime
import Derived.Test.YtkpbljifckjeoaaGreatDoorQLogB
set_option linter.unusedSimpArgs false
set_option linter.unusedVariables false
namespace Go.Rse
open Go Go.Proofs
attribute [local irreducible] Pur yC yE Ex X Fn Imp LeV LeB FnO It yJ
attribute [local irreducible] gI
theorem zib (a b : Int) (h0 : 0 <= a) (h1 : a <= 9223372036854775807) (h2 : 0 < b) : Fn Tryz.prog 120 [iv a, iv b] (.tup [iv (a / b), iv (a % b)]) := by
 refine Fn.go Tryz.func120 Tryz.ntmps120 (fun g w d => ?_);apply yb;refine yg ?_;apply yd;refine zz [4,5,6,7,8,9,10,11] [0,0,3,0,0,24,7,127] mo ?_;iterate 8 refine yk ?_
 refine yX ?_;apply Ex.nil;refine X.ret ?_;refine yw ?_ ?_;all_goals (first | rfl | (simp_all; done))
theorem zaV (a b : Int) (h0 : 0 <= a) (h1 : a <= 9223372036854775807) (h2 : 0 <= b) (h3 : b <= 9223372036854775807) : Fn Tryz.prog 90 [iv a, iv b] (iv (gI a b)) := by
 induction hn : b.toNat using Nat.strongRecOn generalizing a b
 rename_i n ih;refine Fn.go Tryz.func90 Tryz.ntmps90 (fun g w d => ?_);apply yb;refine ye ?_;apply yd;apply yb;refine yg ?_;refine yl rfl ?_ ?_<;>intro hc1
 ·apply yb;refine yg ?_;refine X.ret ?_;refine yh ?_;all_goals (rw [hc1, zkz h0])
 have hb0 : 0 < b := by omega
 have e0 := Int.emod_nonneg a (show b ≠ 0 by omega);have e1 := Int.emod_lt_of_pos a hb0;apply yf;apply yb;iterate 2 refine ya ?_
 refine yj (zib a b h0 h1 hb0) ?_;iterate 5 refine ya ?_
 apply yi;iterate 2 refine ya ?_
 refine yj (ih (a % b).toNat (by omega) b (a % b) h2 h3 e0 (by omega) rfl) ?_;refine ye ?_;refine X.ret ?_;refine yh ?_;all_goals (rw [zkA h0 hb0])
theorem zbu (t : Tm) : Fn Tryz.prog 69 [tmA t] (iv (ckT t)) := by
 refine Fn.go Tryz.func69 Tryz.ntmps69 (fun g w d => ?_);apply yb;refine yF ?_;refine ye ?_;apply yd;apply X.block;apply yb;iterate 3 refine ya ?_
 refine ExF.at 3 ?_;refine yG ?_;iterate 3 refine ExF.gi ?_
 iterate 2 refine yG ?_
 iterate 3 refine ExF.gi ?_
 iterate 2 refine yG ?_
 iterate 3 refine ExF.gi ?_
 refine yH ?_;refine yg ?_;refine yl rfl ?_ ?_<;>intro hc1
 ·apply yb;refine ye ?_;refine X.ret ?_;refine yh ?_;all_goals (congr 1; unfold ckT; rw [if_pos (by omega)])
 apply yb;iterate 4 refine ya ?_
 refine yj (zaV t.N t.D (by omega) (by omega) (by omega) (by omega)) ?_;refine yg ?_;refine yl rfl ?_ ?_<;>intro hc2
 ·apply yb;refine ye ?_;refine X.ret ?_;refine yh ?_;all_goals (congr 1; unfold ckT; rw [if_neg (by omega), if_pos hc2])
 apply yf;apply yb;refine ye ?_;refine X.ret ?_;refine yh ?_;all_goals (congr 1; unfold ckT; rw [if_neg (by omega), if_neg (by omega)])
theorem zao (l : List Tm) (hl : l.length <= 4000000000) : Fn Tryz.prog 130 [tmsA l] (iv (y5 l)) := by
 refine Fn.go Tryz.func130 Tryz.ntmps130 (fun g w d => ?_);apply yb;refine ye ?_;apply yd;apply yb;refine yo ?_;apply X.block
 refine zl (ι := Nat) (fun (k : Nat) => [(6, tmsA l), (7, iv l.length), (8, iv (k : Int))]) (fun (k : Nat) => []) (fun (k : Nat) => k <= l.length /\ y5 l = y5 (l.drop k)) (fun (k : Nat) => l.length - k) 0 (fun k hk => ?_) (hJ := by
  exact ⟨by omega, rfl⟩)
 obtain ⟨hk1, hk2⟩ := hk;apply yb;refine ye ?_;apply yd;refine yl rfl ?_ ?_<;>intro hc1
 ·obtain ⟨t, ht⟩ : ∃ t, l[k]? = some t := ⟨_, lgg (by omega)⟩;have ht2 : l[(k : Int).toNat]? = some t := by simpa using ht
  apply yf;apply yd;apply X.block;apply yb;iterate 2 refine ya ?_
  refine yD ?_;refine Ex.mo ?_;apply yi;refine ya ?_;refine yj (zbu t) ?_;refine ya ?_;apply yi;refine yg ?_;refine yl rfl ?_ ?_<;>intro hc2
  ·apply yb;refine yg ?_;refine X.ret ?_;refine yh ?_;all_goals (congr 1; rw [hk2, zbZ ht, if_neg hc2])
  apply yf;apply yc;refine yg ?_
  refine yM (k + 1) (hJ := by
   exact ⟨by omega, by rw [hk2, zbZ ht, if_pos hc2]⟩)
 ·apply X.exit;apply yb;refine ye ?_;refine X.ret ?_;refine yh ?_;all_goals (congr 1; rw [hk2, List.drop_of_length_le (by omega)]; rfl)
theorem zc0 (n q : Int) (h0 : n <= 9223372036854775807) (h1 : q <= 9223372036854775807) (hm : -9223372036854775808 <= n) : Fn Tryz.prog 173 [iv n, iv q] (.tup [tmA (tmkT n q), iv (tmkE n q)]) := by
 refine Fn.go Tryz.func173 Tryz.ntmps173 (fun g w d => ?_);apply yb;refine yD ?_;refine ye ?_;apply yd;apply X.block;apply yb;iterate 2 refine ya ?_
 refine ExF.at 2 ?_;refine yG ?_;iterate 2 refine ExF.gi ?_
 refine yH ?_;refine yg ?_;refine yl rfl ?_ ?_<;>intro hc1
 ·have hE : tmkE n q = 2 := by unfold tmkE; rw [if_pos hc1]
  have hV : tmkT n q = tmZ := by unfold tmkT; rw [if_neg (by omega)]
  apply yb;refine ya ?_;refine Ex.mo ?_;refine ye ?_;refine X.ret ?_;refine za ty25 ?_ ?_;all_goals (first | (rw [hE]; done) | (rw [hV]; rfl) | (rw [hE]; rfl) | (rw [hV]; done))
 apply yb;refine yo ?_;refine yl rfl ?_ ?_<;>intro hc2
 ·have hE : tmkE n q = 5 := by unfold tmkE; rw [if_neg (by omega), if_pos hc2]
  have hV : tmkT n q = tmZ := by unfold tmkT; rw [if_neg (by omega)]
  apply yb;refine ya ?_;refine Ex.mo ?_;refine ye ?_;refine X.ret ?_;refine za ty25 ?_ ?_;all_goals (first | (rw [hE]; done) | (rw [hV]; rfl) | (rw [hE]; rfl) | (rw [hV]; done))
 have hg := zgm (n := n) (d := q) (by omega);apply yf;apply yb;iterate 2 refine ya ?_
 refine yj (zaV n q (by omega) (by omega) (by omega) (by omega)) ?_;refine ye ?_;apply yd;refine zz [7,23,24,25,26,27,28,29] [0,0,3,0,0,24,63,0,255] mo ?_;iterate 7 refine yk ?_
 refine ChM.step rfl rfl rfl (zbf (k := 7) zc25) rfl ?_;refine yX ?_;refine Ex.mo ?_;apply Ex.nil;apply yd;apply yb;iterate 3 refine ya ?_
 refine ExF.at 3 ?_;refine yG ?_;iterate 3 refine ExF.gi ?_
 refine yH ?_;refine ye ?_;refine yl rfl ?_ ?_<;>intro hc3
 ·have hE : tmkE n q = 4 := by unfold tmkE; rw [if_neg (by omega), if_neg (by omega), if_pos hc3]
  have hV : tmkT n q = tmZ := by unfold tmkT; rw [if_neg (by omega)]
  apply yb;refine ya ?_;refine Ex.mo ?_;refine ye ?_;refine X.ret ?_;refine za ty25 ?_ ?_;all_goals (first | (rw [hE]; done) | (rw [hV]; rfl) | (rw [hE]; rfl) | (rw [hV]; done))
 have hE : tmkE n q = 0 := by unfold tmkE; rw [if_neg (by omega), if_neg (by omega), if_neg (fun h => by omega)]
 have hV : tmkT n q = ⟨n / gI n q, q / gI n q⟩ := by unfold tmkT; rw [if_pos hE]
 apply yf;apply yb;refine ya ?_;refine Ex.mo ?_;refine ye ?_;refine X.ret ?_;refine za ty25 ?_ ?_;all_goals (first | (rw [hE]; done) | (rw [hV]; rfl) | (rw [hE]; rfl) | (rw [hV]; done))
theorem zbb (a b : Tm) : Fn Tryz.prog 237 [tmA a, tmA b] (.tup [tmA (addV a b), iv (addE a b)]) := by
 refine Fn.go Tryz.func237 Tryz.ntmps237 (fun g w d => ?_);apply yb;iterate 2 refine yF ?_
 refine yD ?_;refine ye ?_;apply yd;apply yb;iterate 2 refine ya ?_
 refine yW tmE [⟨_, _⟩, ⟨_, _⟩] ?_;refine Ex.imp (Imp.freeze (k := 9) rfl) ?_;refine yj (zao [a, b] (by simp)) ?_;refine ya ?_;apply yi;refine yg ?_;refine yl rfl ?_ ?_<;>intro hc1
 ·have hE : addE a b = y5 [a, b] := by unfold addE; rw [if_neg hc1]
  have hV : addV a b = tmZ := by unfold addV; rw [if_neg hc1]
  apply yb;iterate 2 refine ya ?_
  refine Ex.mo ?_;refine ye ?_;refine X.ret ?_;refine za ty25 ?_ ?_;all_goals (first | (rw [hE]; done) | (rw [hV]; rfl) | (unfold addE; rw [if_pos hc1]; done) | (unfold addV; rw [if_pos hc1]; done) | (unfold addV; rw [if_pos hc1]; rfl))
 have h12 := zgn hc1;have b1 := zdR h12.1;have b2 := zdR h12.2;have m1 := mulB b1.1 b1.2.1 b2.2.2.1 b2.2.2.2.1;have m2 := mulB b2.1 b2.2.1 b1.2.2.1 b1.2.2.2.1;have m3 := mulB b1.2.2.1 b1.2.2.2.1 b2.2.2.1 b2.2.2.2.1;have m4 := mulP b1.2.2.2.2.1 b2.2.2.2.2.1;apply yf;apply yb;iterate 16 refine ya ?_
 refine yj (zc0 (a.N * b.D + b.N * a.D) (a.D * b.D) (by omega) (by omega) (by omega)) ?_;iterate 2 refine ya ?_
 refine Ex.mo ?_;refine ye ?_;refine X.ret ?_;refine za ty25 ?_ ?_;all_goals (first | (rw [hE]; done) | (rw [hV]; rfl) | (unfold addE; rw [if_pos hc1]; done) | (unfold addV; rw [if_pos hc1]; done) | (unfold addV; rw [if_pos hc1]; rfl))
theorem zbH (a b : Tm) : Fn Tryz.prog 191 [tmA a, tmA b] (.tup [tmA (subV a b), iv (subE a b)]) := by
 refine Fn.go Tryz.func191 Tryz.ntmps191 (fun g w d => ?_);apply yb;iterate 2 refine yF ?_
 refine yD ?_;refine ye ?_;apply yd;apply yb;iterate 2 refine ya ?_
 refine yW tmE [⟨_, _⟩, ⟨_, _⟩] ?_;refine Ex.imp (Imp.freeze (k := 9) rfl) ?_;refine yj (zao [a, b] (by simp)) ?_;refine ya ?_;apply yi;refine yg ?_;refine yl rfl ?_ ?_<;>intro hc1
 ·have hE : subE a b = y5 [a, b] := by unfold subE; rw [if_neg hc1]
  have hV : subV a b = tmZ := by unfold subV; rw [if_neg hc1]
  apply yb;iterate 2 refine ya ?_
  refine Ex.mo ?_;refine ye ?_;refine X.ret ?_;refine za ty25 ?_ ?_;all_goals (first | (rw [hE]; done) | (rw [hV]; rfl) | (unfold subE; rw [if_pos hc1]; done) | (unfold subV; rw [if_pos hc1]; done) | (unfold subV; rw [if_pos hc1]; rfl))
 have h12 := zgn hc1;have b1 := zdR h12.1;have b2 := zdR h12.2;have m1 := mulB b1.1 b1.2.1 b2.2.2.1 b2.2.2.2.1;have m2 := mulB b2.1 b2.2.1 b1.2.2.1 b1.2.2.2.1;have m3 := mulB b1.2.2.1 b1.2.2.2.1 b2.2.2.1 b2.2.2.2.1;have m4 := mulP b1.2.2.2.2.1 b2.2.2.2.2.1;apply yf;apply yb;iterate 16 refine ya ?_
 refine yj (zc0 (a.N * b.D - b.N * a.D) (a.D * b.D) (by omega) (by omega) (by omega)) ?_;iterate 2 refine ya ?_
 refine Ex.mo ?_;refine ye ?_;refine X.ret ?_;refine za ty25 ?_ ?_;all_goals (first | (rw [hE]; done) | (rw [hV]; rfl) | (unfold subE; rw [if_pos hc1]; done) | (unfold subV; rw [if_pos hc1]; done) | (unfold subV; rw [if_pos hc1]; rfl))
theorem zer (a b c q : Int) (a0 : 0 <= a) (a1 : a <= 1099511627776) (b0 : 1 <= b) (b1 : b <= 1099511627776) (c0 : 0 <= c) (c1 : c <= 1099511627776) (d0 : 1 <= q) (d1 : q <= 1099511627776) : Fn Tryz.prog 131 [iv a, iv b, iv c, iv q] (.tup [tmA (tmsV a b c q), iv (tmsE a b c q)]) := by
 have hg := zgm (n := a) (d := q) (by omega);have hh := zgm (n := c) (d := b) (by omega);have qa := Int.ediv_nonneg a0 (Int.le_of_lt hg);have qb := Int.ediv_nonneg (show 0 <= b by omega) (Int.le_of_lt hh);have qc := Int.ediv_nonneg c0 (Int.le_of_lt hh);have qd := Int.ediv_nonneg (show 0 <= q by omega) (Int.le_of_lt hg);have ra := Int.ediv_le_self (gI a q) a0;have rb := Int.ediv_le_self (gI c b) (show 0 <= b by omega);have rc := Int.ediv_le_self (gI c b) c0;have rd := Int.ediv_le_self (gI a q) (show 0 <= q by omega);have hE : tmsE a b c q = if bigQ (a / gI a q) (b / gI c b) (c / gI c b) (q / gI a q) then 4 else tmkE (a / gI a q * (c / gI c b)) (b / gI c b * (q / gI a q)) := rfl
 have hV : tmsV a b c q = if bigQ (a / gI a q) (b / gI c b) (c / gI c b) (q / gI a q) then tmZ else tmkT (a / gI a q * (c / gI c b)) (b / gI c b * (q / gI a q)) := rfl
 rw [hE, hV];refine Fn.go Tryz.func131 Tryz.ntmps131 (fun g w d => ?_);apply yb;refine yD ?_;refine ya ?_;apply yi;iterate 2 refine ya ?_
 refine yj (zaV a q (by omega) (by omega) (by omega) (by omega)) ?_;iterate 2 refine ya ?_
 refine yj (zaV c b (by omega) (by omega) (by omega) (by omega)) ?_;refine yg ?_;apply yd;refine X.drawP [⟨0, 18, iv a, []⟩, ⟨1, 19, iv (gI a q), []⟩, ⟨2, 20, iv (a / gI a q), [1, 0]⟩, ⟨3, 21, iv q, []⟩, ⟨4, 22, iv (gI a q), []⟩, ⟨5, 23, iv (q / gI a q), [4, 3]⟩, ⟨6, 24, iv c, []⟩, ⟨7, 25, iv (gI c b), []⟩, ⟨8, 26, iv (c / gI c b), [7, 6]⟩, ⟨9, 27, iv b, []⟩, ⟨10, 28, iv (gI c b), []⟩, ⟨11, 29, iv (b / gI c b), [10, 9]⟩] [(12, [1, 0, 2]), (13, [4, 3, 2, 1, 0, 12, 5]), (14, [12, 7, 6, 5, 4, 3, 2, 1, 0, 13, 8]), (15, [13, 12, 10, 9, 8, 7, 6, 5, 4, 3, 2, 1, 0, 14, 11])] (fun j => match j with | 0 => ⟨[(0, iv (a)), (1, iv (b)), (2, iv (c)), (3, iv (q)), (8, .ptr 8 0 0 0), (10, iv (gI a q)), (11, iv (gI c b))], [(8, .box [iv 0, iv 0] 25)]⟩ | 1 => ⟨[(0, iv (a / gI a q)), (1, iv (b)), (2, iv (c)), (3, iv (q)), (8, .ptr 8 0 0 0), (10, iv (gI a q)), (11, iv (gI c b))], [(8, .box [iv 0, iv 0] 25)]⟩ | 2 => ⟨[(0, iv (a / gI a q)), (1, iv (b)), (2, iv (c)), (3, iv (q / gI a q)), (8, .ptr 8 0 0 0), (10, iv (gI a q)), (11, iv (gI c b))], [(8, .box [iv 0, iv 0] 25)]⟩ | 3 => ⟨[(0, iv (a / gI a q)), (1, iv (b)), (2, iv (c / gI c b)), (3, iv (q / gI a q)), (8, .ptr 8 0 0 0), (10, iv (gI a q)), (11, iv (gI c b))], [(8, .box [iv 0, iv 0] 25)]⟩ | _ => ⟨[(0, iv (a / gI a q)), (1, iv (b / gI c b)), (2, iv (c / gI c b)), (3, iv (q / gI a q)), (8, .ptr 8 0 0 0), (10, iv (gI a q)), (11, iv (gI c b))], [(8, .box [iv 0, iv 0] 25)]⟩) mo (by kernel_rfl) (zbx (yn)) (fun j hj => ?_) (fun j c hc β hβ => ?_) ?_
 ·rcases j with _ | _ | _ | _ | _ | j
  ·(iterate 12 refine ⟨.inr ⟨_, rfl, rfl, rfl, rfl, zt⟩, ?_⟩);exact True.intro
  ·(iterate 3 refine ⟨.inl rfl, ?_⟩);(iterate 9 refine ⟨.inr ⟨_, rfl, rfl, rfl, rfl, zt⟩, ?_⟩);exact True.intro
  ·(iterate 6 refine ⟨.inl rfl, ?_⟩);(iterate 6 refine ⟨.inr ⟨_, rfl, rfl, rfl, rfl, zt⟩, ?_⟩);exact True.intro
  ·(iterate 9 refine ⟨.inl rfl, ?_⟩);(iterate 3 refine ⟨.inr ⟨_, rfl, rfl, rfl, rfl, zt⟩, ?_⟩);exact True.intro
  ·(iterate 12 refine ⟨.inl rfl, ?_⟩);exact True.intro
  ·exact absurd (show j + 5 <= 4 from hj) (by omega)
 ·rcases j with _ | _ | _ | _ | j
  ·obtain rfl : (12, [1, 0, 2]) = c := by injection hc
   refine yr rfl (yR (st0 := ⟨[(18, iv a), (19, iv (gI a q)), (20, iv (a / gI a q)), (21, .ifb (β 3) (iv q)), (22, .ifb (β 4) (iv (gI a q))), (23, .ifb (β 5) (iv (q / gI a q))), (24, .ifb (β 6) (iv c)), (25, .ifb (β 7) (iv (gI c b))), (26, .ifb (β 8) (iv (c / gI c b))), (27, .ifb (β 9) (iv b)), (28, .ifb (β 10) (iv (gI c b))), (29, .ifb (β 11) (iv (b / gI c b))), (0, iv (a)), (1, iv (b)), (2, iv (c)), (3, iv (q)), (8, .ptr 8 0 0 0), (10, iv (gI a q)), (11, iv (gI c b))], [(8, .box [iv 0, iv 0] 25)]⟩) (yP) ?_);refine yE.imp (yA (Pur.stepA (zc6 rfl)) rfl rfl) (yP)
  ·obtain rfl : (13, [4, 3, 2, 1, 0, 12, 5]) = c := by injection hc
   refine yr rfl (yR (st0 := ⟨[(18, iv a), (19, iv (gI a q)), (20, iv (a / gI a q)), (21, iv q), (22, iv (gI a q)), (23, iv (q / gI a q)), (24, .ifb (β 6) (iv c)), (25, .ifb (β 7) (iv (gI c b))), (26, .ifb (β 8) (iv (c / gI c b))), (27, .ifb (β 9) (iv b)), (28, .ifb (β 10) (iv (gI c b))), (29, .ifb (β 11) (iv (b / gI c b))), (0, iv (a / gI a q)), (1, iv (b)), (2, iv (c)), (3, iv (q)), (8, .ptr 8 0 0 0), (10, iv (gI a q)), (11, iv (gI c b))], [(8, .box [iv 0, iv 0] 25)]⟩) (yP) ?_);refine yE.imp (yA (Pur.stepA (zc6 rfl)) rfl rfl) (yP)
  ·obtain rfl : (14, [12, 7, 6, 5, 4, 3, 2, 1, 0, 13, 8]) = c := by injection hc
   refine yr rfl (yR (st0 := ⟨[(18, iv a), (19, iv (gI a q)), (20, iv (a / gI a q)), (21, iv q), (22, iv (gI a q)), (23, iv (q / gI a q)), (24, iv c), (25, iv (gI c b)), (26, iv (c / gI c b)), (27, .ifb (β 9) (iv b)), (28, .ifb (β 10) (iv (gI c b))), (29, .ifb (β 11) (iv (b / gI c b))), (0, iv (a / gI a q)), (1, iv (b)), (2, iv (c)), (3, iv (q / gI a q)), (8, .ptr 8 0 0 0), (10, iv (gI a q)), (11, iv (gI c b))], [(8, .box [iv 0, iv 0] 25)]⟩) (yP) ?_);refine yE.imp (yA (Pur.stepA (zc6 rfl)) rfl rfl) (yP)
  ·obtain rfl : (15, [13, 12, 10, 9, 8, 7, 6, 5, 4, 3, 2, 1, 0, 14, 11]) = c := by injection hc
   refine yr rfl (yR (st0 := ⟨[(18, iv a), (19, iv (gI a q)), (20, iv (a / gI a q)), (21, iv q), (22, iv (gI a q)), (23, iv (q / gI a q)), (24, iv c), (25, iv (gI c b)), (26, iv (c / gI c b)), (27, iv b), (28, iv (gI c b)), (29, iv (b / gI c b)), (0, iv (a / gI a q)), (1, iv (b)), (2, iv (c / gI c b)), (3, iv (q / gI a q)), (8, .ptr 8 0 0 0), (10, iv (gI a q)), (11, iv (gI c b))], [(8, .box [iv 0, iv 0] 25)]⟩) (yP) ?_);refine yE.imp (yA (Pur.stepA (zc6 rfl)) rfl rfl) (yP)
  ·exact absurd hc (by simp)
 iterate 2 apply yd
 generalize a / gI a q = a2 at *
 generalize b / gI c b = b2 at *
 generalize c / gI c b = c2 at *
 generalize q / gI a q = d2 at *
 apply yc;iterate 2 refine ya ?_
 refine ExF.at 2 ?_;refine yG ?_;iterate 4 refine ExF.gi ?_
 iterate 2 refine yG ?_
 iterate 8 refine ExF.gi ?_
 refine yH ?_;refine ye ?_;refine yl rfl ?_ ?_<;>intro hc1
 ·have hq : bigQ a2 b2 c2 d2 := hc1;apply yb;refine ya ?_;refine Ex.mo ?_;refine ye ?_;refine X.ret ?_;refine za ty25 ?_ ?_;all_goals (first | (rw [if_neg hq]; done) | (rw [if_neg hq]; rfl) | (rw [if_pos hq]; done) | (rw [if_pos hq]; rfl))
 have hq : ¬ bigQ a2 b2 c2 d2 := fun h => by unfold bigQ at h; omega
 have z1 : 0 <= a2 * c2 := Int.mul_nonneg qa qc
 have z2 : a2 * c2 <= 1099511627776 := by
  by_cases h : 0 < a2
  ·exact zhk h (by decide) (fun h2 => hq (.inl ⟨h, h2⟩))
  ·rw [show a2 = 0 by omega]; simp
 have z3 : b2 * d2 <= 1048576 := by
  by_cases h : 0 < d2
  ·rw [Int.mul_comm]; exact zhk h (by decide) (fun h2 => hq (.inr ⟨h, h2⟩))
  ·rw [show d2 = 0 by omega]; simp
 have hm0 : -9223372036854775808 <= a2 * c2 := by omega
 have hm1 : a2 * c2 <= 9223372036854775807 := by omega
 have hm2 : b2 * d2 <= 9223372036854775807 := by omega
 have z4 : 0 <= b2 * d2 := Int.mul_nonneg qb qd;apply yf;apply yb;iterate 6 refine ya ?_
 refine yj (zc0 _ _ hm1 hm2 hm0) ?_;iterate 2 refine ya ?_
 refine Ex.mo ?_;refine ye ?_;refine X.ret ?_;refine za ty25 ?_ ?_;all_goals (first | (rw [if_neg hq]; done) | (rw [if_neg hq]; rfl) | (rw [if_pos hq]; done) | (rw [if_pos hq]; rfl))
theorem zcv (a b : Tm) : Fn Tryz.prog 95 [tmA a, tmA b] (.tup [tmA (mulV a b), iv (mulE a b)]) := by
 refine Fn.go Tryz.func95 Tryz.ntmps95 (fun g w d => ?_);apply yb;iterate 2 refine yF ?_
 refine yD ?_;refine ye ?_;apply yd;apply yb;iterate 2 refine ya ?_
 refine yW tmE [⟨_, _⟩, ⟨_, _⟩] ?_;refine Ex.imp (Imp.freeze (k := 9) rfl) ?_;refine yj (zao [a, b] (by simp)) ?_;refine ya ?_;apply yi;refine yg ?_;refine yl rfl ?_ ?_<;>intro hc1
 ·have hE : mulE a b = y5 [a, b] := by unfold mulE; rw [if_neg hc1]
  have hV : mulV a b = tmZ := by unfold mulV; rw [if_neg hc1]
  apply yb;iterate 2 refine ya ?_
  refine Ex.mo ?_;refine ye ?_;refine X.ret ?_;refine za ty25 ?_ ?_;all_goals (first | (rw [hE]; done) | (rw [hV]; rfl) | (unfold mulE; rw [if_pos hc1]; done) | (unfold mulV; rw [if_pos hc1]; done) | (unfold mulV; rw [if_pos hc1]; rfl))
 have h12 := zgn hc1;have b1 := zdR h12.1;have b2 := zdR h12.2;have m1 := mulB b1.1 b1.2.1 b2.2.2.1 b2.2.2.2.1;have m2 := mulB b2.1 b2.2.1 b1.2.2.1 b1.2.2.2.1;have m3 := mulB b1.2.2.1 b1.2.2.2.1 b2.2.2.1 b2.2.2.2.1;have m4 := mulP b1.2.2.2.2.1 b2.2.2.2.2.1;apply yf;apply yb;iterate 8 refine ya ?_
 refine yj (zer a.N a.D b.N b.D b1.1 b1.2.1 b1.2.2.2.2.1 (by omega) b2.1 b2.2.1 b2.2.2.2.2.1 (by omega)) ?_;iterate 2 refine ya ?_
 refine Ex.mo ?_;refine ye ?_;refine X.ret ?_;refine za ty25 ?_ ?_;all_goals (first | (rw [hE]; done) | (rw [hV]; rfl) | (unfold mulE; rw [if_pos hc1]; done) | (unfold mulV; rw [if_pos hc1]; done) | (unfold mulV; rw [if_pos hc1]; rfl))
theorem zgd (a b : Tm) : Fn Tryz.prog 244 [tmA a, tmA b] (.tup [iv (cmpV a b), iv (y5 [a, b])]) := by
 refine Fn.go Tryz.func244 Tryz.ntmps244 (fun g w d => ?_);apply yb;iterate 2 refine yF ?_
 refine yg ?_;apply yd;apply yb;iterate 2 refine ya ?_
 refine yW tmE [⟨_, _⟩, ⟨_, _⟩] ?_;refine Ex.imp (Imp.freeze (k := 10) rfl) ?_;refine yj (zao [a, b] (by simp)) ?_;refine ya ?_;apply yi;refine yg ?_;refine yl rfl ?_ ?_<;>intro hc1
 ·have hV : cmpV a b = 0 := by unfold cmpV; rw [if_neg hc1]
  apply yb;refine yo ?_;refine X.ret ?_;refine yw ?_ ?_;all_goals (first | (rw [hV]; done) | rfl | (rw [hc1]; done))
 have h12 := zgn hc1;have b1 := zdR h12.1;have b2 := zdR h12.2;have m1 := mulB b1.1 b1.2.1 b2.2.2.1 b2.2.2.2.1;have m2 := mulB b2.1 b2.2.1 b1.2.2.1 b1.2.2.2.1;have m3 := mulB b1.2.2.1 b1.2.2.2.1 b2.2.2.1 b2.2.2.2.1;have m4 := mulP b1.2.2.2.2.1 b2.2.2.2.2.1;apply yf;apply yd;apply yb;iterate 11 refine ya ?_
 refine ye ?_;apply X.block;apply yb;refine yo ?_;refine yl rfl ?_ ?_<;>intro hc2
 ·have hV : cmpV a b = -1 := by unfold cmpV; rw [if_pos hc1, if_pos (by omega)]
  apply yb;refine yg ?_;refine X.ret ?_;refine yw ?_ ?_;all_goals (first | (rw [hV]; done) | rfl | (rw [hc1]; done))
 apply yb;refine yo ?_;refine yl rfl ?_ ?_<;>intro hc3
 ·have hV : cmpV a b = 1 := by unfold cmpV; rw [if_pos hc1, if_neg (by omega), if_pos (by omega)]
  apply yb;refine yg ?_;refine X.ret ?_;refine yw ?_ ?_;all_goals (first | (rw [hV]; done) | rfl | (rw [hc1]; done))
 have hV : cmpV a b = 0 := by unfold cmpV; rw [if_pos hc1, if_neg (by omega), if_neg (by omega)]
 apply yf;apply yb;refine yg ?_;refine X.ret ?_;refine yw ?_ ?_;all_goals (first | (rw [hV]; done) | rfl | (rw [hc1]; done))
theorem zjG (l : List Tm) (hl : l.length <= 4000000000) : Fn Tryz.prog 224 [tmsA l] (.tup [tmA (sumV l), iv (sumE l)]) := by
 refine Fn.go Tryz.func224 Tryz.ntmps224 (fun g w d => ?_);apply yb;refine yD ?_;refine ye ?_;apply yd;apply yb;refine ya ?_;refine yj (zao l hl) ?_;refine ya ?_;apply yi;refine yg ?_;refine yl rfl ?_ ?_<;>intro hc1
 ·have hE : sumE l = y5 l := by unfold sumE; rw [if_neg hc1]
  have hV : sumV l = tmZ := by unfold sumV; rw [if_neg hc1]
  apply yb;iterate 2 refine ya ?_
  refine Ex.mo ?_;refine ye ?_;refine X.ret ?_;refine za ty25 ?_ ?_;all_goals (first | (rw [hE]; done) | (rw [hV]; rfl) | (rw [hE]; rfl) | (rw [hV]; done))
 have hE : sumE l = (sumF ⟨0, 1⟩ l).2 := by unfold sumE; rw [if_pos hc1]
 have hV : sumV l = (sumF ⟨0, 1⟩ l).1 := by unfold sumV; rw [if_pos hc1]
 apply yf;apply yb;refine ya ?_;refine yD ?_;refine Ex.mo ?_;apply Ex.nil;apply yd;apply yb;refine yo ?_;apply X.block
 refine zl (ι := Nat × Tm) (fun (p : Nat × Tm) => [(2, .ptr 2 0 0 0), (5, .ptr 5 0 0 0), (16, tmsA l), (17, iv l.length), (18, iv (p.1 : Int))]) (fun (p : Nat × Tm) => [(2, .box [iv 0, iv 0] 25), (5, .box (tmE p.2) 25)]) (fun (p : Nat × Tm) => p.1 <= l.length /\ sumF ⟨0, 1⟩ l = sumF p.2 (l.drop p.1)) (fun (p : Nat × Tm) => l.length - p.1) (0, ⟨0, 1⟩) (fun p hk => ?_) (hJ := by
  exact ⟨by simp, rfl⟩)
 obtain ⟨k, s⟩ := p;obtain ⟨hk1, hk2⟩ := hk;dsimp only at *
 apply yb;refine ye ?_;apply yd;refine yl rfl ?_ ?_<;>intro hc2
 ·obtain ⟨t, ht⟩ : ∃ t, l[k]? = some t := ⟨_, lgg (by omega)⟩;have ht2 : l[(k : Int).toNat]? = some t := by simpa using ht
  apply yf;apply yd;apply X.block;apply yb;iterate 2 refine ya ?_
  refine yD ?_;refine Ex.mo ?_;apply yi;refine ya ?_;apply yi;iterate 2 refine ya ?_
  refine yj (zbb s t) ?_;iterate 3 refine ya ?_
  refine Ex.mo ?_;refine ya ?_;apply yi;refine yg ?_;refine yl rfl ?_ ?_<;>intro hc3
  ·have hS := zhj (s := s) ht;rw [if_neg hc3] at hS;rw [hk2, hS] at hE hV;apply yb;(iterate 2 refine ya ?_);refine Ex.mo ?_;refine ye ?_;refine X.ret ?_;refine za ty25 ?_ ?_;all_goals (first | (rw [hE]; done) | (rw [hV]; rfl) | (rw [hE]; rfl) | (rw [hV]; done))
  apply yf;apply yc;refine yg ?_
  refine yM ((k + 1, addV s t)) (hJ := by
   exact ⟨by dsimp only; omega, by rw [hk2, zhj ht, if_pos hc3]⟩)
 ·rw [hk2, List.drop_of_length_le (by omega)] at hE hV;apply X.exit;apply yb;refine ya ?_;refine Ex.mo ?_;refine ye ?_;refine X.ret ?_;refine za ty25 ?_ ?_;all_goals (first | (rw [hE]; done) | (rw [hV]; rfl) | (rw [hE]; rfl) | (rw [hV]; done))
end Go.Rse
namespace Go.Rse
open Go Go.Proofs
attribute [local irreducible] Pur yC yE Ex X Fn Imp LeV LeB FnO It yJ
attribute [local irreducible] gI
end Go.Rse
namespace Go.Rse
open Go Go.Proofs
attribute [local irreducible] Pur yC yE Ex X Fn Imp LeV LeB FnO It yJ
theorem zrX {m : Mn} {w : Int} (h : 4 < w) : m.p w = 2 := by
 unfold Mn.p; rw [if_neg (by omega), if_neg (by omega), if_neg (by omega), if_neg (by omega)]
theorem znY {m : Mn} {v : Int} (h : ckMV m v = 0) : 1 <= v /\ v <= 8 := by
 unfold ckMV at h;split at h
 ·split at h
  ·assumption
  ·omega
 ·omega
end Go.Rse
namespace Go.Rse
open Go Go.Proofs
attribute [local irreducible] Pur yC yE Ex X Fn Imp LeV LeB FnO It yJ
def zbY (m : Mn) (v : Int) : Nat -> Int
 | 0 => 1
 | n + 1 => zbY m v n * m.p (v + n)
def dbl : Nat -> Int
 | 0 => 1
 | n + 1 => dbl n * 2
def zd (m : Mn) (v : Int) : Tm := ⟨zbY m v (5 - v).toNat, dbl (v - 5).toNat⟩
theorem zkv {m : Mn} (h : ckM m = 0) (v : Int) (h1 : 1 <= v) : m.p v = 2 \/ m.p v = 3 := by
 rcases Int.lt_or_le 4 v with h4 | h4
 ·exact .inl (zrX h4)
 ·have ho : m.Ok := by
   unfold ckM at h; split at h
   ·assumption
   ·simp at h
  exact m.ok_iff.1 ho v h1 h4
def pw3 : Nat -> Int
 | 0 => 1
 | n + 1 => pw3 n * 3
theorem zkw {m : Mn} (h : ckM m = 0) {v : Int} (h1 : 1 <= v) : ∀ n, 1 <= zbY m v n /\ zbY m v n <= pw3 n
 | 0 => ⟨Int.le_refl _, Int.le_refl _⟩
 | n + 1 => by
  obtain ⟨a, b⟩ := zkw h h1 n;simp only [zbY, pw3];rcases zkv h (v + n) (by omega) with e | e <;> rw [e] <;> omega
theorem zrY : ∀ n, n <= 4 -> pw3 n <= 81
 | 0, _ => by decide
 | 1, _ => by decide
 | 2, _ => by decide
 | 3, _ => by decide
 | 4, _ => by decide
 | n + 5, h => by omega
theorem zrZ : ∀ n, n <= 3 -> 1 <= dbl n /\ dbl n <= 8
 | 0, _ => by decide
 | 1, _ => by decide
 | 2, _ => by decide
 | 3, _ => by decide
 | n + 4, h => by omega
theorem zqm {m : Mn} {v : Int} (h : ckMV m v = 0) : ckM m = 0 /\ 1 <= v /\ v <= 8 := by
 have h2 := znY h;refine ⟨?_, h2⟩;unfold ckMV at h; unfold ckM;split at h
 ·rw [if_pos (by assumption)]
 ·omega
theorem znZ (m : Mn) (v : Int) (j : Nat) : zbY m v j * m.p (v + (j : Int)) = zbY m v (j + 1) := rfl
theorem zr0 (j : Nat) : dbl j * 2 = dbl (j + 1) := rfl
attribute [local irreducible] zbY dbl perfL
theorem ziX (m : Mn) (v : Int) (hm : ckM m = 0) (h1 : 1 <= v) (h8 : v <= 8) : Fn Tryz.prog 172 [mnA m, iv v] (tmA (zd m v)) := by
 have hp0 : zbY m v 0 = 1 := by unfold zbY; rfl
 have hd0 : dbl 0 = 1 := by unfold dbl; rfl
 refine Fn.go Tryz.func172 Tryz.ntmps172 (fun g w d => ?_);apply yb;refine yF ?_;refine yD ?_;apply yi;refine yg ?_;apply yd;apply yb;refine yg ?_;apply X.block;refine zl (ι := Nat) (fun (j : Nat) => [(1, iv v), (2, .ptr 2 0 0 0), (4, .ptr 4 0 0 0), (5, iv (zbY m v j)), (6, iv 1), (7, iv (v + (j : Int)))]) (fun (j : Nat) => [(2, .box (mnE m) 32), (4, .box [iv 0, iv 0] 25)]) (fun (j : Nat) => j <= (5 - v).toNat) (fun (j : Nat) => (5 - v).toNat - j) 0 (fun j hk => ?_);apply yd;apply yb;refine yg ?_;refine yl rfl ?_ ?_<;>intro hc1
 ·have hjv : j < (5 - v).toNat := by omega
  have hb := zkw (m := m) hm h1 j;have hb2 := zrY j (by omega);have hp := zkv hm (v + j) (by omega);have hst := znZ m v j;have hpm : 0 <= zbY m v j * m.p (v + (j : Int)) /\ zbY m v j * m.p (v + (j : Int)) <= 1000 := by rcases hp with e | e <;> rw [e] <;> omega
  apply yf;apply yd;apply X.block;apply yc;iterate 3 refine ya ?_
  refine yj (zhl m (v + (j : Int)) (by omega) (by omega)) ?_;refine yg ?_;apply yc;refine yo ?_;refine yM (j + 1)
 ·have hj : j = (5 - v).toNat := by omega
  subst hj;apply X.exit;apply yd;apply yb;refine ye ?_;apply X.block;refine zl (ι := Nat) (fun (j : Nat) => [(1, iv v), (2, .ptr 2 0 0 0), (4, .ptr 4 0 0 0), (5, iv (zbY m v (5 - v).toNat)), (6, iv (dbl j)), (8, iv (5 + (j : Int)))]) (fun (j : Nat) => [(2, .box (mnE m) 32), (4, .box [iv 0, iv 0] 25)]) (fun (j : Nat) => j <= (v - 5).toNat) (fun (j : Nat) => (v - 5).toNat - j) 0 (fun j hk => ?_);apply yd;apply yb;refine yo ?_;refine yl rfl ?_ ?_<;>intro hc2
  ·have hb := zrZ j (by omega);have hst := zr0 j;apply yf;apply yd;apply X.block;apply yc;refine yo ?_;apply yc;refine yo ?_;refine yM (j + 1)
  ·have hj : j = (v - 5).toNat := by omega
   subst hj;apply X.exit;apply yb;(iterate 3 refine ya ?_);refine Ex.mo ?_;apply Ex.nil;refine X.ret ?_;refine RetQ.ret (.one (.cellA rfl rfl rfl rfl ty25 (LeV.eq ?_)));all_goals (rfl)
theorem ziY (m : Mn) (v : Int) : Fn Tryz.prog 129 [mnA m, iv v] (.tup [tmA (if ckMV m v = 0 then zd m v else tmZ), iv (ckMV m v)]) := by
 refine Fn.go Tryz.func129 Tryz.ntmps129 (fun g w d => ?_);apply yb;refine yF ?_;refine yD ?_;refine ye ?_;apply yd;apply yb;iterate 2 refine ya ?_
 refine yj (zbI m v) ?_;refine ya ?_;apply yi;refine yg ?_;refine yl rfl ?_ ?_<;>intro hc1
 ·apply yb;iterate 2 refine ya ?_
  refine Ex.mo ?_;refine ye ?_;refine X.ret ?_;refine za ty25 ?_ ?_;all_goals (first | rfl | (rw [if_neg hc1]; done) | (rw [if_neg hc1]; rfl) | (rw [if_pos hc1]; done) | (rw [if_pos hc1]; rfl) | (rw [hc1]; done) | (rw [hc1]; rfl))
 have h3 := zqm hc1;apply yf;apply yb;iterate 2 refine ya ?_
 refine yj (ziX m v h3.1 h3.2.1 h3.2.2) ?_;refine Ex.mo ?_;refine ye ?_;refine X.ret ?_;refine za ty25 ?_ ?_;all_goals (first | rfl | (rw [if_neg hc1]; done) | (rw [if_neg hc1]; rfl) | (rw [if_pos hc1]; done) | (rw [if_pos hc1]; rfl) | (rw [hc1]; done) | (rw [hc1]; rfl))
end Go.Rse
