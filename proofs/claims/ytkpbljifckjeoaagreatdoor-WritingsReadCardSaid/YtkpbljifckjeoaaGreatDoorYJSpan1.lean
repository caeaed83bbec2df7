/-
  Walks.
-/
import Derived.Test.YtkpbljifckjeoaaGreatDoorYJTime
set_option linter.unusedSimpArgs false
set_option linter.unusedVariables false
namespace Go.Rse
open Go Go.Proofs
section
attribute [local irreducible] Pur yr yw Ex X Fn Imp LeV LeB FnO It yx
attribute [local irreducible] gI
theorem zi9 (a b : Int) (h0 : 0 <= a) (h1 : a <= 9223372036854775807) (h2 : 0 < b) : Fn Tryz.prog 120 [iv a, iv b] (.tup [iv (a / b), iv (a % b)]) := by
 refine Fn.go Tryz.func120 Tryz.ntmps120 (fun g w d => ?_);refine gq ?_;refine zf [4,5,6,7,8,9,10,11] [0,0,3,0,0,24,7,127] mo ?_;iterate 8 refine yc ?_
 refine yE ?_;refine gq ?_;refine yi ?_ ?_;all_goals (first | rfl | (simp_all; done))
theorem za0 (a b : Int) (h0 : 0 <= a) (h1 : a <= 9223372036854775807) (h2 : 0 <= b) (h3 : b <= 9223372036854775807) : Fn Tryz.prog 90 [iv a, iv b] (iv (gI a b)) := by
 induction hn : b.toNat using Nat.strongRecOn generalizing a b
 rename_i n ih;refine Fn.go Tryz.func90 Tryz.ntmps90 (fun g w d => ?_);refine gd ?_ ?_<;>intro hc1
 ·refine gq ?_;all_goals (rw [hc1, zjf h0])
 have hb0 : 0 < b := by omega
 have e0 := Int.emod_nonneg a (show b ≠ 0 by omega);have e1 := Int.emod_lt_of_pos a hb0;refine gq ?_;refine yb (zi9 a b h0 h1 hb0) ?_;refine gq ?_;refine yb (ih (a % b).toNat (by omega) b (a % b) h2 h3 e0 (by omega) rfl) ?_;refine gq ?_;all_goals (rw [zjg h0 hb0])
theorem zbF (t : Tm) : Fn Tryz.prog 69 [tmA t] (iv (ckT t)) := by
 refine Fn.go Tryz.func69 Tryz.ntmps69 (fun g w d => ?_);apply yg;refine zaS ?_;refine yu ?_;apply yl;apply X.block;apply yg;iterate 3 refine ya ?_
 refine ExF.at 3 ?_;refine yA ?_;iterate 3 refine ExF.gi ?_
 iterate 2 refine yA ?_
 iterate 3 refine ExF.gi ?_
 iterate 2 refine yA ?_
 iterate 3 refine ExF.gi ?_
 refine gf ?_ ?_<;>intro hc1
 ·refine gq ?_;all_goals (congr 1; unfold ckT; rw [if_pos (by omega)])
 refine gq ?_;refine yb (za0 t.N t.D (by omega) (by omega) (by omega) (by omega)) ?_;refine gd ?_ ?_<;>intro hc2
 ·refine gq ?_;all_goals (congr 1; unfold ckT; rw [if_neg (by omega), if_pos hc2])
 refine gq ?_;all_goals (congr 1; unfold ckT; rw [if_neg (by omega), if_neg (by omega)])
theorem zar (l : List Tm) (hl : l.length <= 4000000000) : Fn Tryz.prog 130 [tmsA l] (iv (yP l)) := by
 refine Fn.go Tryz.func130 Tryz.ntmps130 (fun g w d => ?_);refine gq ?_
 refine yS (ι := Nat) (fun (k : Nat) => [(6, tmsA l), (7, iv l.length), (8, iv (k : Int))]) (fun (k : Nat) => []) (fun (k : Nat) => k <= l.length /\ yP l = yP (l.drop k)) (fun (k : Nat) => l.length - k) 0 (fun k hk => ?_) (hJ := by
  exact ⟨by omega, rfl⟩)
 obtain ⟨hk1, hk2⟩ := hk;refine gd ?_ ?_<;>intro hc1
 ·obtain ⟨t, ht⟩ : ∃ t, l[k]? = some t := ⟨_, lgg (by omega)⟩;have ht2 : l[(k : Int).toNat]? = some t := by simpa using ht
  refine gq ?_;refine yb (zbF t) ?_;refine gd ?_ ?_<;>intro hc2
  ·refine gq ?_;all_goals (congr 1; rw [hk2, zch ht, if_neg hc2])
  refine gq ?_
  refine yz (k + 1) (hJ := by
   exact ⟨by omega, by rw [hk2, zch ht, if_pos hc2]⟩)
 ·refine gq ?_;all_goals (congr 1; rw [hk2, List.drop_of_length_le (by omega)]; rfl)
theorem zdx (n q : Int) (h0 : n <= 9223372036854775807) (h1 : q <= 9223372036854775807) (hm : -9223372036854775808 <= n) : Fn Tryz.prog 173 [iv n, iv q] (.tup [tmA (tmkT n q), iv (tmkE n q)]) := by
 refine Fn.go Tryz.func173 Tryz.ntmps173 (fun g w d => ?_);apply yg;refine zB ?_;refine yu ?_;apply yl;apply X.block;apply yg;iterate 2 refine ya ?_
 refine ExF.at 2 ?_;refine yA ?_;iterate 2 refine ExF.gi ?_
 refine gf ?_ ?_<;>intro hc1
 ·have hE : tmkE n q = 2 := by unfold tmkE; rw [if_pos hc1]
  have hV : tmkT n q = tmZ := by unfold tmkT; rw [if_neg (by omega)]
  refine gq ?_;refine yH ty25 ?_ ?_;all_goals (first | (rw [hE]; done) | (rw [hV]; rfl) | (rw [hE]; rfl) | (rw [hV]; done))
 refine gd ?_ ?_<;>intro hc2
 ·have hE : tmkE n q = 5 := by unfold tmkE; rw [if_neg (by omega), if_pos hc2]
  have hV : tmkT n q = tmZ := by unfold tmkT; rw [if_neg (by omega)]
  refine gq ?_;refine yH ty25 ?_ ?_;all_goals (first | (rw [hE]; done) | (rw [hV]; rfl) | (rw [hE]; rfl) | (rw [hV]; done))
 have hg := zeD (n := n) (d := q) (by omega);refine gq ?_;refine yb (za0 n q (by omega) (by omega) (by omega) (by omega)) ?_;refine gq ?_;refine zf [7,23,24,25,26,27,28,29] [0,0,3,0,0,24,63,0,255] mo ?_;iterate 7 refine yc ?_
 refine ChM.step rfl rfl rfl (zbn (k := 7) zc25) rfl ?_;refine yE ?_;refine Ex.mo ?_;apply Ex.nil;apply yl;apply yg;iterate 3 refine ya ?_
 refine ExF.at 3 ?_;refine yA ?_;iterate 3 refine ExF.gi ?_
 refine gf ?_ ?_<;>intro hc3
 ·have hE : tmkE n q = 4 := by unfold tmkE; rw [if_neg (by omega), if_neg (by omega), if_pos hc3]
  have hV : tmkT n q = tmZ := by unfold tmkT; rw [if_neg (by omega)]
  refine gq ?_;refine yH ty25 ?_ ?_;all_goals (first | (rw [hE]; done) | (rw [hV]; rfl) | (rw [hE]; rfl) | (rw [hV]; done))
 have hE : tmkE n q = 0 := by unfold tmkE; rw [if_neg (by omega), if_neg (by omega), if_neg (fun h => by omega)]
 have hV : tmkT n q = ⟨n / gI n q, q / gI n q⟩ := by unfold tmkT; rw [if_pos hE]
 refine gq ?_;refine yH ty25 ?_ ?_;all_goals (first | (rw [hE]; done) | (rw [hV]; rfl) | (rw [hE]; rfl) | (rw [hV]; done))
theorem zbj (a b : Tm) : Fn Tryz.prog 237 [tmA a, tmA b] (.tup [tmA (addV a b), iv (addE a b)]) := by
 refine Fn.go Tryz.func237 Tryz.ntmps237 (fun g w d => ?_);refine gq ?_;refine yJ tmE [⟨_, _⟩, ⟨_, _⟩] ?_;refine Ex.imp (Imp.freeze (k := 9) rfl) ?_;refine yb (zar [a, b] (by simp)) ?_;refine gd ?_ ?_<;>intro hc1
 ·have hE : addE a b = yP [a, b] := by unfold addE; rw [if_neg hc1]
  have hV : addV a b = tmZ := by unfold addV; rw [if_neg hc1]
  refine gq ?_;refine yH ty25 ?_ ?_;all_goals (first | (rw [hE]; done) | (rw [hV]; rfl) | (unfold addE; rw [if_pos hc1]; done) | (unfold addV; rw [if_pos hc1]; done) | (unfold addV; rw [if_pos hc1]; rfl))
 have h12 := zeE hc1;have b1 := zbp h12.1;have b2 := zbp h12.2;have m1 := mulB b1.1 b1.2.1 b2.2.2.1 b2.2.2.2.1;have m2 := mulB b2.1 b2.2.1 b1.2.2.1 b1.2.2.2.1;have m3 := mulB b1.2.2.1 b1.2.2.2.1 b2.2.2.1 b2.2.2.2.1;have m4 := mulP b1.2.2.2.2.1 b2.2.2.2.2.1;refine gq ?_;refine yb (zdx (a.N * b.D + b.N * a.D) (a.D * b.D) (by omega) (by omega) (by omega)) ?_;refine gq ?_;refine yH ty25 ?_ ?_;all_goals (first | (rw [hE]; done) | (rw [hV]; rfl) | (unfold addE; rw [if_pos hc1]; done) | (unfold addV; rw [if_pos hc1]; done) | (unfold addV; rw [if_pos hc1]; rfl))
theorem zbR (a b : Tm) : Fn Tryz.prog 191 [tmA a, tmA b] (.tup [tmA (subV a b), iv (subE a b)]) := by
 refine Fn.go Tryz.func191 Tryz.ntmps191 (fun g w d => ?_);refine gq ?_;refine yJ tmE [⟨_, _⟩, ⟨_, _⟩] ?_;refine Ex.imp (Imp.freeze (k := 9) rfl) ?_;refine yb (zar [a, b] (by simp)) ?_;refine gd ?_ ?_<;>intro hc1
 ·have hE : subE a b = yP [a, b] := by unfold subE; rw [if_neg hc1]
  have hV : subV a b = tmZ := by unfold subV; rw [if_neg hc1]
  refine gq ?_;refine yH ty25 ?_ ?_;all_goals (first | (rw [hE]; done) | (rw [hV]; rfl) | (unfold subE; rw [if_pos hc1]; done) | (unfold subV; rw [if_pos hc1]; done) | (unfold subV; rw [if_pos hc1]; rfl))
 have h12 := zeE hc1;have b1 := zbp h12.1;have b2 := zbp h12.2;have m1 := mulB b1.1 b1.2.1 b2.2.2.1 b2.2.2.2.1;have m2 := mulB b2.1 b2.2.1 b1.2.2.1 b1.2.2.2.1;have m3 := mulB b1.2.2.1 b1.2.2.2.1 b2.2.2.1 b2.2.2.2.1;have m4 := mulP b1.2.2.2.2.1 b2.2.2.2.2.1;refine gq ?_;refine yb (zdx (a.N * b.D - b.N * a.D) (a.D * b.D) (by omega) (by omega) (by omega)) ?_;refine gq ?_;refine yH ty25 ?_ ?_;all_goals (first | (rw [hE]; done) | (rw [hV]; rfl) | (unfold subE; rw [if_pos hc1]; done) | (unfold subV; rw [if_pos hc1]; done) | (unfold subV; rw [if_pos hc1]; rfl))
theorem zfb (a b c q : Int) (a0 : 0 <= a) (a1 : a <= 1099511627776) (b0 : 1 <= b) (b1 : b <= 1099511627776) (c0 : 0 <= c) (c1 : c <= 1099511627776) (d0 : 1 <= q) (d1 : q <= 1099511627776) : Fn Tryz.prog 131 [iv a, iv b, iv c, iv q] (.tup [tmA (tmsV a b c q), iv (tmsE a b c q)]) := by
 have hg := zeD (n := a) (d := q) (by omega);have hh := zeD (n := c) (d := b) (by omega);have qa := Int.ediv_nonneg a0 (Int.le_of_lt hg);have qb := Int.ediv_nonneg (show 0 <= b by omega) (Int.le_of_lt hh);have qc := Int.ediv_nonneg c0 (Int.le_of_lt hh);have qd := Int.ediv_nonneg (show 0 <= q by omega) (Int.le_of_lt hg);have ra := Int.ediv_le_self (gI a q) a0;have rb := Int.ediv_le_self (gI c b) (show 0 <= b by omega);have rc := Int.ediv_le_self (gI c b) c0;have rd := Int.ediv_le_self (gI a q) (show 0 <= q by omega);have hE : tmsE a b c q = if bigQ (a / gI a q) (b / gI c b) (c / gI c b) (q / gI a q) then 4 else tmkE (a / gI a q * (c / gI c b)) (b / gI c b * (q / gI a q)) := rfl
 have hV : tmsV a b c q = if bigQ (a / gI a q) (b / gI c b) (c / gI c b) (q / gI a q) then tmZ else tmkT (a / gI a q * (c / gI c b)) (b / gI c b * (q / gI a q)) := rfl
 rw [hE, hV];refine Fn.go Tryz.func131 Tryz.ntmps131 (fun g w d => ?_);refine gq ?_;refine yb (za0 a q (by omega) (by omega) (by omega) (by omega)) ?_;refine gq ?_;refine yb (za0 c b (by omega) (by omega) (by omega) (by omega)) ?_;refine gq ?_;refine X.drawP [⟨0, 18, iv a, []⟩, ⟨1, 19, iv (gI a q), []⟩, ⟨2, 20, iv (a / gI a q), [1, 0]⟩, ⟨3, 21, iv q, []⟩, ⟨4, 22, iv (gI a q), []⟩, ⟨5, 23, iv (q / gI a q), [4, 3]⟩, ⟨6, 24, iv c, []⟩, ⟨7, 25, iv (gI c b), []⟩, ⟨8, 26, iv (c / gI c b), [7, 6]⟩, ⟨9, 27, iv b, []⟩, ⟨10, 28, iv (gI c b), []⟩, ⟨11, 29, iv (b / gI c b), [10, 9]⟩] [(12, [1, 0, 2]), (13, [4, 3, 2, 1, 0, 12, 5]), (14, [12, 7, 6, 5, 4, 3, 2, 1, 0, 13, 8]), (15, [13, 12, 10, 9, 8, 7, 6, 5, 4, 3, 2, 1, 0, 14, 11])] (fun j => match j with | 0 => ⟨[(0, iv (a)), (1, iv (b)), (2, iv (c)), (3, iv (q)), (8, .ptr 8 0 0 0), (10, iv (gI a q)), (11, iv (gI c b))], [(8, .box [iv 0, iv 0] 25)]⟩ | 1 => ⟨[(0, iv (a / gI a q)), (1, iv (b)), (2, iv (c)), (3, iv (q)), (8, .ptr 8 0 0 0), (10, iv (gI a q)), (11, iv (gI c b))], [(8, .box [iv 0, iv 0] 25)]⟩ | 2 => ⟨[(0, iv (a / gI a q)), (1, iv (b)), (2, iv (c)), (3, iv (q / gI a q)), (8, .ptr 8 0 0 0), (10, iv (gI a q)), (11, iv (gI c b))], [(8, .box [iv 0, iv 0] 25)]⟩ | 3 => ⟨[(0, iv (a / gI a q)), (1, iv (b)), (2, iv (c / gI c b)), (3, iv (q / gI a q)), (8, .ptr 8 0 0 0), (10, iv (gI a q)), (11, iv (gI c b))], [(8, .box [iv 0, iv 0] 25)]⟩ | _ => ⟨[(0, iv (a / gI a q)), (1, iv (b / gI c b)), (2, iv (c / gI c b)), (3, iv (q / gI a q)), (8, .ptr 8 0 0 0), (10, iv (gI a q)), (11, iv (gI c b))], [(8, .box [iv 0, iv 0] 25)]⟩) mo (by kernel_rfl) (zbb (ye)) (fun j hj => ?_) (fun j c hc β hβ => ?_) ?_
 ·rcases j with _ | _ | _ | _ | _ | j
  ·(iterate 12 refine ⟨.inr ⟨_, rfl, rfl, rfl, rfl, y9⟩, ?_⟩);exact True.intro
  ·(iterate 3 refine ⟨.inl rfl, ?_⟩);(iterate 9 refine ⟨.inr ⟨_, rfl, rfl, rfl, rfl, y9⟩, ?_⟩);exact True.intro
  ·(iterate 6 refine ⟨.inl rfl, ?_⟩);(iterate 6 refine ⟨.inr ⟨_, rfl, rfl, rfl, rfl, y9⟩, ?_⟩);exact True.intro
  ·(iterate 9 refine ⟨.inl rfl, ?_⟩);(iterate 3 refine ⟨.inr ⟨_, rfl, rfl, rfl, rfl, y9⟩, ?_⟩);exact True.intro
  ·(iterate 12 refine ⟨.inl rfl, ?_⟩);exact True.intro
  ·exact absurd (show j + 5 <= 4 from hj) (by omega)
 ·rcases j with _ | _ | _ | _ | j
  ·obtain rfl : (12, [1, 0, 2]) = c := by injection hc
   refine yh rfl (yD (st0 := ⟨[(18, iv a), (19, iv (gI a q)), (20, iv (a / gI a q)), (21, .ifb (β 3) (iv q)), (22, .ifb (β 4) (iv (gI a q))), (23, .ifb (β 5) (iv (q / gI a q))), (24, .ifb (β 6) (iv c)), (25, .ifb (β 7) (iv (gI c b))), (26, .ifb (β 8) (iv (c / gI c b))), (27, .ifb (β 9) (iv b)), (28, .ifb (β 10) (iv (gI c b))), (29, .ifb (β 11) (iv (b / gI c b))), (0, iv (a)), (1, iv (b)), (2, iv (c)), (3, iv (q)), (8, .ptr 8 0 0 0), (10, iv (gI a q)), (11, iv (gI c b))], [(8, .box [iv 0, iv 0] 25)]⟩) (yy) ?_);refine yw.imp (yo (Pur.stepA (zcJ rfl)) rfl rfl) (yy)
  ·obtain rfl : (13, [4, 3, 2, 1, 0, 12, 5]) = c := by injection hc
   refine yh rfl (yD (st0 := ⟨[(18, iv a), (19, iv (gI a q)), (20, iv (a / gI a q)), (21, iv q), (22, iv (gI a q)), (23, iv (q / gI a q)), (24, .ifb (β 6) (iv c)), (25, .ifb (β 7) (iv (gI c b))), (26, .ifb (β 8) (iv (c / gI c b))), (27, .ifb (β 9) (iv b)), (28, .ifb (β 10) (iv (gI c b))), (29, .ifb (β 11) (iv (b / gI c b))), (0, iv (a / gI a q)), (1, iv (b)), (2, iv (c)), (3, iv (q)), (8, .ptr 8 0 0 0), (10, iv (gI a q)), (11, iv (gI c b))], [(8, .box [iv 0, iv 0] 25)]⟩) (yy) ?_);refine yw.imp (yo (Pur.stepA (zcJ rfl)) rfl rfl) (yy)
  ·obtain rfl : (14, [12, 7, 6, 5, 4, 3, 2, 1, 0, 13, 8]) = c := by injection hc
   refine yh rfl (yD (st0 := ⟨[(18, iv a), (19, iv (gI a q)), (20, iv (a / gI a q)), (21, iv q), (22, iv (gI a q)), (23, iv (q / gI a q)), (24, iv c), (25, iv (gI c b)), (26, iv (c / gI c b)), (27, .ifb (β 9) (iv b)), (28, .ifb (β 10) (iv (gI c b))), (29, .ifb (β 11) (iv (b / gI c b))), (0, iv (a / gI a q)), (1, iv (b)), (2, iv (c)), (3, iv (q / gI a q)), (8, .ptr 8 0 0 0), (10, iv (gI a q)), (11, iv (gI c b))], [(8, .box [iv 0, iv 0] 25)]⟩) (yy) ?_);refine yw.imp (yo (Pur.stepA (zcJ rfl)) rfl rfl) (yy)
  ·obtain rfl : (15, [13, 12, 10, 9, 8, 7, 6, 5, 4, 3, 2, 1, 0, 14, 11]) = c := by injection hc
   refine yh rfl (yD (st0 := ⟨[(18, iv a), (19, iv (gI a q)), (20, iv (a / gI a q)), (21, iv q), (22, iv (gI a q)), (23, iv (q / gI a q)), (24, iv c), (25, iv (gI c b)), (26, iv (c / gI c b)), (27, iv b), (28, iv (gI c b)), (29, iv (b / gI c b)), (0, iv (a / gI a q)), (1, iv (b)), (2, iv (c / gI c b)), (3, iv (q / gI a q)), (8, .ptr 8 0 0 0), (10, iv (gI a q)), (11, iv (gI c b))], [(8, .box [iv 0, iv 0] 25)]⟩) (yy) ?_);refine yw.imp (yo (Pur.stepA (zcJ rfl)) rfl rfl) (yy)
  ·exact absurd hc (by simp)
 iterate 2 apply yl
 generalize a / gI a q = a2 at *
 generalize b / gI c b = b2 at *
 generalize c / gI c b = c2 at *
 generalize q / gI a q = d2 at *
 apply ym;iterate 2 refine ya ?_
 refine ExF.at 2 ?_;refine yA ?_;iterate 4 refine ExF.gi ?_
 iterate 2 refine yA ?_
 iterate 8 refine ExF.gi ?_
 refine gf ?_ ?_<;>intro hc1
 ·have hq : bigQ a2 b2 c2 d2 := hc1;refine gq ?_;refine yH ty25 ?_ ?_;all_goals (first | (rw [if_neg hq]; done) | (rw [if_neg hq]; rfl) | (rw [if_pos hq]; done) | (rw [if_pos hq]; rfl))
 have hq : ¬ bigQ a2 b2 c2 d2 := fun h => by unfold bigQ at h; omega
 have z1 : 0 <= a2 * c2 := Int.mul_nonneg qa qc
 have z2 : a2 * c2 <= 1099511627776 := by
  by_cases h : 0 < a2
  ·exact zik h (by decide) (fun h2 => hq (.inl ⟨h, h2⟩))
  ·rw [show a2 = 0 by omega]; simp
 have z3 : b2 * d2 <= 1048576 := by
  by_cases h : 0 < d2
  ·rw [Int.mul_comm]; exact zik h (by decide) (fun h2 => hq (.inr ⟨h, h2⟩))
  ·rw [show d2 = 0 by omega]; simp
 have hm0 : -9223372036854775808 <= a2 * c2 := by omega
 have hm1 : a2 * c2 <= 9223372036854775807 := by omega
 have hm2 : b2 * d2 <= 9223372036854775807 := by omega
 have z4 : 0 <= b2 * d2 := Int.mul_nonneg qb qd;refine gq ?_;refine yb (zdx _ _ hm1 hm2 hm0) ?_;refine gq ?_;refine yH ty25 ?_ ?_;all_goals (first | (rw [if_neg hq]; done) | (rw [if_neg hq]; rfl) | (rw [if_pos hq]; done) | (rw [if_pos hq]; rfl))
theorem zcY (a b : Tm) : Fn Tryz.prog 95 [tmA a, tmA b] (.tup [tmA (mulV a b), iv (mulE a b)]) := by
 refine Fn.go Tryz.func95 Tryz.ntmps95 (fun g w d => ?_);refine gq ?_;refine yJ tmE [⟨_, _⟩, ⟨_, _⟩] ?_;refine Ex.imp (Imp.freeze (k := 9) rfl) ?_;refine yb (zar [a, b] (by simp)) ?_;refine gd ?_ ?_<;>intro hc1
 ·have hE : mulE a b = yP [a, b] := by unfold mulE; rw [if_neg hc1]
  have hV : mulV a b = tmZ := by unfold mulV; rw [if_neg hc1]
  refine gq ?_;refine yH ty25 ?_ ?_;all_goals (first | (rw [hE]; done) | (rw [hV]; rfl) | (unfold mulE; rw [if_pos hc1]; done) | (unfold mulV; rw [if_pos hc1]; done) | (unfold mulV; rw [if_pos hc1]; rfl))
 have h12 := zeE hc1;have b1 := zbp h12.1;have b2 := zbp h12.2;have m1 := mulB b1.1 b1.2.1 b2.2.2.1 b2.2.2.2.1;have m2 := mulB b2.1 b2.2.1 b1.2.2.1 b1.2.2.2.1;have m3 := mulB b1.2.2.1 b1.2.2.2.1 b2.2.2.1 b2.2.2.2.1;have m4 := mulP b1.2.2.2.2.1 b2.2.2.2.2.1;refine gq ?_;refine yb (zfb a.N a.D b.N b.D b1.1 b1.2.1 b1.2.2.2.2.1 (by omega) b2.1 b2.2.1 b2.2.2.2.2.1 (by omega)) ?_;refine gq ?_;refine yH ty25 ?_ ?_;all_goals (first | (rw [hE]; done) | (rw [hV]; rfl) | (unfold mulE; rw [if_pos hc1]; done) | (unfold mulV; rw [if_pos hc1]; done) | (unfold mulV; rw [if_pos hc1]; rfl))
theorem zg4 (a b : Tm) : Fn Tryz.prog 244 [tmA a, tmA b] (.tup [iv (cmpV a b), iv (yP [a, b])]) := by
 refine Fn.go Tryz.func244 Tryz.ntmps244 (fun g w d => ?_);refine gq ?_;refine yJ tmE [⟨_, _⟩, ⟨_, _⟩] ?_;refine Ex.imp (Imp.freeze (k := 10) rfl) ?_;refine yb (zar [a, b] (by simp)) ?_;refine gd ?_ ?_<;>intro hc1
 ·have hV : cmpV a b = 0 := by unfold cmpV; rw [if_neg hc1]
  refine gq ?_;refine yi ?_ ?_;all_goals (first | (rw [hV]; done) | rfl | (rw [hc1]; done))
 have h12 := zeE hc1;have b1 := zbp h12.1;have b2 := zbp h12.2;have m1 := mulB b1.1 b1.2.1 b2.2.2.1 b2.2.2.2.1;have m2 := mulB b2.1 b2.2.1 b1.2.2.1 b1.2.2.2.1;have m3 := mulB b1.2.2.1 b1.2.2.2.1 b2.2.2.1 b2.2.2.2.1;have m4 := mulP b1.2.2.2.2.1 b2.2.2.2.2.1;refine gd ?_ ?_<;>intro hc2
 ·have hV : cmpV a b = -1 := by unfold cmpV; rw [if_pos hc1, if_pos (by omega)]
  refine gq ?_;refine yi ?_ ?_;all_goals (first | (rw [hV]; done) | rfl | (rw [hc1]; done))
 refine gd ?_ ?_<;>intro hc3
 ·have hV : cmpV a b = 1 := by unfold cmpV; rw [if_pos hc1, if_neg (by omega), if_pos (by omega)]
  refine gq ?_;refine yi ?_ ?_;all_goals (first | (rw [hV]; done) | rfl | (rw [hc1]; done))
 have hV : cmpV a b = 0 := by unfold cmpV; rw [if_pos hc1, if_neg (by omega), if_neg (by omega)]
 refine gq ?_;refine yi ?_ ?_;all_goals (first | (rw [hV]; done) | rfl | (rw [hc1]; done))
theorem zkP (l : List Tm) (hl : l.length <= 4000000000) : Fn Tryz.prog 224 [tmsA l] (.tup [tmA (sumV l), iv (sumE l)]) := by
 refine Fn.go Tryz.func224 Tryz.ntmps224 (fun g w d => ?_);refine gq ?_;refine yb (zar l hl) ?_;refine gd ?_ ?_<;>intro hc1
 ·have hE : sumE l = yP l := by unfold sumE; rw [if_neg hc1]
  have hV : sumV l = tmZ := by unfold sumV; rw [if_neg hc1]
  refine gq ?_;refine yH ty25 ?_ ?_;all_goals (first | (rw [hE]; done) | (rw [hV]; rfl) | (rw [hE]; rfl) | (rw [hV]; done))
 have hE : sumE l = (sumF ⟨0, 1⟩ l).2 := by unfold sumE; rw [if_pos hc1]
 have hV : sumV l = (sumF ⟨0, 1⟩ l).1 := by unfold sumV; rw [if_pos hc1]
 refine gq ?_
 refine yS (ι := Nat × Tm) (fun (p : Nat × Tm) => [(2, .ptr 2 0 0 0), (5, .ptr 5 0 0 0), (16, tmsA l), (17, iv l.length), (18, iv (p.1 : Int))]) (fun (p : Nat × Tm) => [(2, .box [iv 0, iv 0] 25), (5, .box (tmE p.2) 25)]) (fun (p : Nat × Tm) => p.1 <= l.length /\ sumF ⟨0, 1⟩ l = sumF p.2 (l.drop p.1)) (fun (p : Nat × Tm) => l.length - p.1) (0, ⟨0, 1⟩) (fun p hk => ?_) (hJ := by
  exact ⟨by simp, rfl⟩)
 obtain ⟨k, s⟩ := p;obtain ⟨hk1, hk2⟩ := hk;dsimp only at *
 refine gd ?_ ?_<;>intro hc2
 ·obtain ⟨t, ht⟩ : ∃ t, l[k]? = some t := ⟨_, lgg (by omega)⟩;have ht2 : l[(k : Int).toNat]? = some t := by simpa using ht
  refine gq ?_;refine yb (zbj s t) ?_;refine gd ?_ ?_<;>intro hc3
  ·have hS := zij (s := s) ht;rw [if_neg hc3] at hS;rw [hk2, hS] at hE hV;refine gq ?_;refine yH ty25 ?_ ?_;all_goals (first | (rw [hE]; done) | (rw [hV]; rfl) | (rw [hE]; rfl) | (rw [hV]; done))
  refine gq ?_
  refine yz ((k + 1, addV s t)) (hJ := by
   exact ⟨by dsimp only; omega, by rw [hk2, zij ht, if_pos hc3]⟩)
 ·rw [hk2, List.drop_of_length_le (by omega)] at hE hV;refine gq ?_;refine yH ty25 ?_ ?_;all_goals (first | (rw [hE]; done) | (rw [hV]; rfl) | (rw [hE]; rfl) | (rw [hV]; done))
end
section
attribute [local irreducible] Pur yr yw Ex X Fn Imp LeV LeB FnO It yx
attribute [local irreducible] gI
theorem zih (a b : Tm) : yP [a, b] = if ckT a = 0 then ckT b else ckT a := by
 simp only [yP];by_cases ha : ckT a = 0
 ·rw [if_pos ha, if_pos ha];by_cases hb : ckT b = 0
  ·rw [if_pos hb, hb]
  ·rw [if_neg hb]
 ·rw [if_neg ha, if_neg ha]
theorem zcg (a b : Int) (h0 : 0 <= a) (h1 : a <= 9223372036854775807) (h2 : 0 <= b) (h3 : b <= 9223372036854775807) : Fn Tryz.prog 162 [iv a, iv b] (iv (gI a b)) := by
 refine Fn.go Tryz.func162 Tryz.ntmps162 (fun g w d => ?_);refine gq ?_
 refine yS (ι := Int × Int) (fun (p : Int × Int) => [(0, iv p.1), (1, iv p.2)]) (fun (p : Int × Int) => []) (fun (p : Int × Int) => 0 <= p.1 /\ 0 <= p.2 /\ p.1 <= 9223372036854775807 /\ p.2 <= 9223372036854775807 /\ gI p.1 p.2 = gI a b) (fun (p : Int × Int) => p.2.toNat) (a, b) (fun p hk => ?_) (hJ := by
  exact ⟨h0, h2, h1, h3, rfl⟩)
 obtain ⟨x, y⟩ := p;obtain ⟨k1, k2, k3, k4, k5⟩ := hk;dsimp only at *
 refine gd ?_ ?_<;>intro hc1
 ·have e0 := Int.emod_nonneg x (show y ≠ 0 by omega);have e1 := Int.emod_lt_of_pos x hc1;refine gq ?_
  refine yz ((y, x % y)) (hJ := by
   exact ⟨by omega, e0, by dsimp only; omega, by dsimp only; omega, by rw [← k5]; exact zjg k1 hc1⟩)
 ·have hy0 : y = 0 := by omega
  subst hy0;refine gq ?_;all_goals (rw [← k5, zjf k1])
theorem z6 (t : Tm) : Fn Tryz.prog 116 [tmA t] (iv (ckT t)) := by
 refine Fn.go Tryz.func116 Tryz.ntmps116 (fun g w d => ?_);apply yg;refine zaS ?_;refine yu ?_;apply yl;apply yg;iterate 3 refine ya ?_
 refine ExF.at 3 ?_;refine yA ?_;iterate 3 refine ExF.gi ?_
 iterate 2 refine yA ?_
 iterate 3 refine ExF.gi ?_
 iterate 2 refine yA ?_
 iterate 3 refine ExF.gi ?_
 refine gf ?_ ?_<;>intro hc1
 ·refine gq ?_;all_goals (congr 1; unfold ckT; rw [if_pos (by omega)])
 have hg := zeD (n := t.N) (d := t.D) (by omega);refine gq ?_;refine yb (zcg t.N t.D (by omega) (by omega) (by omega) (by omega)) ?_;refine gd ?_ ?_<;>intro hc2
 ·refine gq ?_;all_goals (congr 1; unfold ckT; rw [if_neg (by omega), if_pos (by omega)])
 refine gq ?_;all_goals (congr 1; unfold ckT; rw [if_neg (by omega), if_neg (by omega)])
theorem zcD (n q : Int) (h0 : 0 <= n) (h1 : n <= 9223372036854775807) (h2 : 1 <= q) (h3 : q <= 9223372036854775807) : Fn Tryz.prog 218 [iv n, iv q] (.tup [tmA (tmkT n q), iv (tmkE n q)]) := by
 have hg := zeD (n := n) (d := q) (by omega);refine Fn.go Tryz.func218 Tryz.ntmps218 (fun g w d => ?_);refine gq ?_;refine yb (zcg n q (by omega) (by omega) (by omega) (by omega)) ?_;refine ya ?_;apply yI;iterate 4 refine ya ?_
 apply yI;refine zmo ?_;apply yl;apply yg;iterate 2 refine ya ?_
 refine ExF.at 2 ?_;refine yA ?_;iterate 2 refine ExF.gi ?_
 refine gf ?_ ?_<;>intro hc1
 ·have hE : tmkE n q = 4 := by unfold tmkE; rw [if_neg (by omega), if_neg (by omega), if_pos hc1]
  have hV : tmkT n q = tmZ := by unfold tmkT; rw [if_neg (by omega)]
  refine gq ?_;refine yH ty25 ?_ ?_;all_goals (first | (rw [hE]; done) | (rw [hV]; rfl) | (rw [hE]; rfl) | (rw [hV]; done))
 have hE : tmkE n q = 0 := by unfold tmkE; rw [if_neg (by omega), if_neg (by omega), if_neg (fun h => by omega)]
 have hV : tmkT n q = ⟨n / gI n q, q / gI n q⟩ := by unfold tmkT; rw [if_pos hE]
 refine gq ?_;refine yH ty25 ?_ ?_;all_goals (first | (rw [hE]; done) | (rw [hV]; rfl) | (rw [hE]; rfl) | (rw [hV]; done))
theorem zbS (n q : Int) (h0 : n <= 9223372036854775807) (h1 : q <= 9223372036854775807) : Fn Tryz.prog 200 [iv n, iv q] (.tup [tmA (tmkT n q), iv (tmkE n q)]) := by
 refine Fn.go Tryz.func200 Tryz.ntmps200 (fun g w d => ?_);apply yg;refine zB ?_;refine yu ?_;apply yl;apply yg;iterate 2 refine ya ?_
 refine ExF.at 2 ?_;refine yA ?_;iterate 2 refine ExF.gi ?_
 refine gf ?_ ?_<;>intro hc1
 ·have hE : tmkE n q = 2 := by unfold tmkE; rw [if_pos hc1]
  have hV : tmkT n q = tmZ := by unfold tmkT; rw [if_neg (by omega)]
  refine gq ?_;refine yH ty25 ?_ ?_;all_goals (first | rfl | (rw [hE]; done) | (rw [hV]; rfl) | (rw [hE]; rfl))
 refine gd ?_ ?_<;>intro hc2
 ·have hE : tmkE n q = 5 := by unfold tmkE; rw [if_neg (by omega), if_pos hc2]
  have hV : tmkT n q = tmZ := by unfold tmkT; rw [if_neg (by omega)]
  refine gq ?_;refine yH ty25 ?_ ?_;all_goals (first | rfl | (rw [hE]; done) | (rw [hV]; rfl) | (rw [hE]; rfl))
 refine gq ?_;refine yb (zcD n q (by omega) (by omega) (by omega) (by omega)) ?_;refine gq ?_;refine yH ty25 ?_ ?_;all_goals (first | rfl | (rw [hE]; done) | (rw [hV]; rfl) | (rw [hE]; rfl))
theorem zbT (a b : Tm) : Fn Tryz.prog 220 [tmA a, tmA b] (iv (yP [a, b])) := by
 refine Fn.go Tryz.func220 Tryz.ntmps220 (fun g w d => ?_);refine gq ?_;refine yb (z6 a) ?_;refine gd ?_ ?_<;>intro hc1
 ·refine gq ?_;all_goals (congr 1; rw [zih, if_neg hc1])
 refine gq ?_;refine yb (z6 b) ?_;refine gq ?_;all_goals (congr 1; rw [zih, if_pos hc1])
theorem zfc (a b : Tm) : Fn Tryz.prog 203 [tmA a, tmA b] (.tup [tmA (subV a b), iv (subE a b)]) := by
 refine Fn.go Tryz.func203 Tryz.ntmps203 (fun g w d => ?_);refine gq ?_;refine yb (zbT a b) ?_;refine gd ?_ ?_<;>intro hc1
 ·have hE : subE a b = yP [a, b] := by unfold subE; rw [if_neg hc1]
  have hV : subV a b = tmZ := by unfold subV; rw [if_neg hc1]
  refine gq ?_;refine yH ty25 ?_ ?_;all_goals (first | (rw [hE]; done) | (rw [hV]; rfl) | (rw [hE]; rfl) | (rw [hV]; done))
 have h12 := zeE hc1;have b1 := zbp h12.1;have b2 := zbp h12.2;have m1 := mulB b1.1 b1.2.1 b2.2.2.1 b2.2.2.2.1;have m2 := mulB b2.1 b2.2.1 b1.2.2.1 b1.2.2.2.1;have m3 := mulB b1.2.2.1 b1.2.2.2.1 b2.2.2.1 b2.2.2.2.1;have m4 := mulP b1.2.2.2.2.1 b2.2.2.2.2.1;have hE : subE a b = tmkE (a.N * b.D - b.N * a.D) (a.D * b.D) := by unfold subE; rw [if_pos hc1]
 have hV : subV a b = tmkT (a.N * b.D - b.N * a.D) (a.D * b.D) := by unfold subV; rw [if_pos hc1]
 refine gd ?_ ?_<;>intro hc2
 ·have h2 : tmkE (a.N * b.D - b.N * a.D) (a.D * b.D) = 2 := by unfold tmkE; rw [if_pos (by omega)]
  have h3 : tmkT (a.N * b.D - b.N * a.D) (a.D * b.D) = tmZ := by unfold tmkT; rw [if_neg (by omega)]
  rw [h2] at hE;rw [h3] at hV;refine gq ?_;refine yH ty25 ?_ ?_;all_goals (first | (rw [hE]; done) | (rw [hV]; rfl) | (rw [hE]; rfl) | (rw [hV]; done))
 refine gq ?_;refine yb (zcD (a.N * b.D - b.N * a.D) (a.D * b.D) (by omega) (by omega) (by omega) (by omega)) ?_;refine gq ?_;refine yH ty25 ?_ ?_;all_goals (first | (rw [hE]; done) | (rw [hV]; rfl) | (rw [hE]; rfl) | (rw [hV]; done))
theorem zdk (a b : Tm) : Fn Tryz.prog 219 [tmA a, tmA b] (.tup [iv (cmpV a b), iv (yP [a, b])]) := by
 refine Fn.go Tryz.func219 Tryz.ntmps219 (fun g w d => ?_);refine gq ?_;refine yb (zbT a b) ?_;refine gd ?_ ?_<;>intro hc1
 ·have hV : cmpV a b = 0 := by unfold cmpV; rw [if_neg hc1]
  refine gq ?_;refine yi ?_ ?_;all_goals (first | (rw [hV]; done) | rfl | (rw [hc1]; done))
 have h12 := zeE hc1;have b1 := zbp h12.1;have b2 := zbp h12.2;have m1 := mulB b1.1 b1.2.1 b2.2.2.1 b2.2.2.2.1;have m2 := mulB b2.1 b2.2.1 b1.2.2.1 b1.2.2.2.1;have m3 := mulB b1.2.2.1 b1.2.2.2.1 b2.2.2.1 b2.2.2.2.1;have m4 := mulP b1.2.2.2.2.1 b2.2.2.2.2.1;refine gq ?_;refine zf [7,8,15,16,17,18,19,20,21,22,23,24] [0,1,0,4,15,0,32,0,128,480,31,2047] mo ?_;iterate 12 refine yc ?_
 refine yE ?_;refine gd ?_ ?_<;>intro hc2
 ·have hV : cmpV a b = -1 := by unfold cmpV; rw [if_pos hc1, if_pos (by omega)]
  refine gq ?_;refine yi ?_ ?_;all_goals (first | (rw [hV]; done) | rfl | (rw [hc1]; done))
 refine gd ?_ ?_<;>intro hc3
 ·have hV : cmpV a b = 1 := by unfold cmpV; rw [if_pos hc1, if_neg (by omega), if_pos (by omega)]
  refine gq ?_;refine yi ?_ ?_;all_goals (first | (rw [hV]; done) | rfl | (rw [hc1]; done))
 have hV : cmpV a b = 0 := by unfold cmpV; rw [if_pos hc1, if_neg (by omega), if_neg (by omega)]
 refine gq ?_;refine yi ?_ ?_;all_goals (first | (rw [hV]; done) | rfl | (rw [hc1]; done))
end
section
attribute [local irreducible] Pur yr yw Ex X Fn Imp LeV LeB FnO It yx
theorem Mn.ok_L (m : Mn) : m.Ok ↔ ∀ v ∈ mnL m, two3 v := by simp [Mn.Ok, mnL]
theorem zuF {m : Mn} {w : Int} (h : 4 < w) : m.p w = 2 := by
 unfold Mn.p; rw [if_neg (by omega), if_neg (by omega), if_neg (by omega), if_neg (by omega)]
theorem zpN {m : Mn} {v : Int} (h : ckMV m v = 0) : 1 <= v /\ v <= 8 := by
 unfold ckMV at h;split at h
 ·split at h
  ·assumption
  ·omega
 ·omega
theorem zD (m : Mn) : Fn Tryz.prog 86 [mnA m] (iv (ckM m)) := by
 refine Fn.go Tryz.func86 Tryz.ntmps86 (fun g w d => ?_);refine gq ?_;refine yJ intE [_, _, _, _] ?_;refine yu ?_;iterate 2 apply yl
 refine X.imp (Imp.freeze (k := 13) rfl) ?_;refine gq ?_
 refine yS (ι := Nat) (fun (k : Nat) => [(3, yf (mnL m)), (4, iv (k : Int))]) (fun (k : Nat) => []) (fun (k : Nat) => k <= 4 /\ ∀ i v, i < k -> (mnL m)[i]? = some v -> two3 v) (fun (k : Nat) => 4 - k) 0 (fun k hk => ?_) (hJ := by
  exact ⟨by omega, fun i v h => absurd h (Nat.not_lt_zero i)⟩)
 obtain ⟨hk1, hk2⟩ := hk;have hl4 : (mnL m).length = 4 := rfl;refine gd ?_ ?_<;>intro hc1
 ·obtain ⟨v, hv⟩ : ∃ v, (mnL m)[k]? = some v := ⟨_, lgg (by omega)⟩;have hv2 : (mnL m)[(k : Int).toNat]? = some v := by simpa using hv
  apply yp;apply yl;apply X.block;apply yg;iterate 5 refine ya ?_
  refine ExF.at 5 ?_;refine yA ?_;iterate 5 refine ExF.gi ?_
  refine gf ?_ ?_<;>intro hc2
  ·refine gq ?_;all_goals (congr 1; unfold ckM; rw [if_neg (fun h => by have := (m.ok_L.1 h) v (List.mem_of_getElem? hv); unfold two3 at this; omega)])
  refine gq ?_
  refine yz (k + 1) (hJ := by
   refine ⟨by omega, fun i u hi hu => ?_⟩;rcases Nat.lt_succ_iff_lt_or_eq.1 hi with h | h
   ·exact hk2 i u h hu
   ·subst h; rw [hv] at hu; injection hu with hu; subst hu; unfold two3; omega)
 ·refine gq ?_;all_goals (congr 1; unfold ckM; rw [if_pos (m.ok_L.2 fun v hv => by obtain ⟨i, hi⟩ := List.mem_iff_getElem?.1 hv; exact hk2 i v (by have := (List.getElem?_eq_some_iff.1 hi).1; omega) hi)])
theorem zq (m : Mn) (v : Int) : Fn Tryz.prog 165 [mnA m, iv v] (iv (m.p v)) := by
 refine Fn.go Tryz.func165 Tryz.ntmps165 (fun g w d => ?_);refine gd ?_ ?_<;>intro hc1
 ·refine gq ?_;all_goals (congr 1; unfold Mn.p; simp [*])
 refine gd ?_ ?_<;>intro hc2
 ·refine gq ?_;all_goals (congr 1; unfold Mn.p; simp [*])
 refine gd ?_ ?_<;>intro hc3
 ·refine gq ?_;all_goals (congr 1; unfold Mn.p; simp [*])
 refine gd ?_ ?_<;>intro hc4
 ·refine gq ?_;all_goals (congr 1; unfold Mn.p; simp [*])
 refine gq ?_;all_goals (congr 1; unfold Mn.p; simp [*])
theorem zeg (m : Mn) (v : Int) : Fn Tryz.prog 198 [mnA m, iv v] (iv (ckMV m v)) := by
 refine Fn.go Tryz.func198 Tryz.ntmps198 (fun g w d => ?_);refine gq ?_;refine yb (zD m) ?_;refine gd ?_ ?_<;>intro hc1
 ·refine gq ?_;all_goals (by_cases hm : m.Ok <;> simp_all [ckM, ckMV] <;> omega)
 apply yp;apply yl;apply yg;iterate 2 refine ya ?_
 refine ExF.at 2 ?_;refine yA ?_;iterate 2 refine ExF.gi ?_
 refine gf ?_ ?_<;>intro hc2
 ·refine gq ?_;all_goals (by_cases hm : m.Ok <;> simp_all [ckM, ckMV] <;> omega)
 refine gq ?_;all_goals (by_cases hm : m.Ok <;> simp_all [ckM, ckMV] <;> omega)
end
end Go.Rse
