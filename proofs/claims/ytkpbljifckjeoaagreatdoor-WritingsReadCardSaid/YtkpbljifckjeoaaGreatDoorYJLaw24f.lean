/-
  Walks.
-/
import Derived.Test.YtkpbljifckjeoaaGreatDoorYJWri5
set_option linter.unusedSimpArgs false
set_option linter.unusedVariables false
namespace Go.Rse
open Go Go.Proofs
section
abbrev T9 : List Tm := [⟨2, 1⟩, ⟨4, 1⟩, ⟨6, 1⟩, ⟨1, 1⟩, ⟨3, 1⟩, ⟨3, 2⟩, ⟨1, 2⟩, ⟨5, 1⟩, ⟨9, 1⟩]
def mzB (x : Int) : Bt := ⟨T9.getD (x % 1048576 % 9).toNat default, decide (x % 1048576 / 9 % 6 = 0)⟩
def mzV (L : List Int) : List Bt := (L.take 4).map mzB
def mzK (L : List Int) (k : Nat) : List Bt := (L.take k).map mzB
theorem zt6 {L : List Int} {k : Nat} {x : Int} (h : L[k]? = some x) : mzK L k ++ [mzB x] = mzK L (k + 1) := by
 unfold mzK; rw [List.take_add_one, h]; simp
theorem zlp (L : List Int) (k : Nat) : (mzK L k).length <= k := by unfold mzK; rw [List.length_map, List.length_take]; omega
theorem zt7 {L : List Int} {k : Nat} (h1 : k <= L.length) (h2 : k <= 4) (h : ¬ k < L.length \/ ¬ k < 4) : mzK L k = mzV L := by
 unfold mzK mzV;rcases h with h | h
 ·rw [List.take_of_length_le (show L.length <= k by omega), List.take_of_length_le (show L.length <= 4 by omega)]
 ·have : k = 4 := by omega
  rw [this]
theorem zq8 {i : Int} (h0 : 0 <= i) (h1 : i < 9) : T9[i.toNat]? = some (T9.getD i.toNat default) := by
 rw [List.getD_eq_getElem?_getD, lgg (show i.toNat < T9.length by show i.toNat < 9; omega)]; rfl
theorem zpe (L : List Int) : (mzV L).length <= 4 := by unfold mzV; rw [List.length_map, List.length_take]; omega
theorem zt8 : T9.all (fun t => decide (btC ⟨t, true⟩ = 0) && decide (btC ⟨t, false⟩ = 0)) = true := by kernel_rfl
theorem zr0 {m : Mn} (hm : ckM m = 0) {L : List Int} : wcE m (mzV L) = 0 := by
 unfold wcE; rw [if_pos hm];refine zfg.2 fun b hb => ?_
 unfold mzV at hb;obtain ⟨x, -, rfl⟩ := List.mem_map.1 hb;have hxm : 0 <= x % 1048576 := Int.emod_nonneg _ (by decide);have hti := zq8 (i := x % 1048576 % 9) (by omega) (by omega);have h := List.all_eq_true.1 zt8 _ (List.mem_of_getElem? hti);rw [Bool.and_eq_true, decide_eq_true_iff, decide_eq_true_iff] at h;unfold mzB;cases decide (x % 1048576 / 9 % 6 = 0)
 ·exact h.2
 ·exact h.1
attribute [local irreducible] Pur yr yw Ex X Fn Imp LeV LeB FnO It yx FnW FnOW FnP FnD
attribute [local irreducible] ltQ mMk mzK mzV
set_option maxHeartbeats 4000000 in
theorem zex (L : List Int) (n : Int) (hL : L.length <= maxLen) (hr : ∀ x ∈ L, -9223372036854775808 <= x /\ x <= 9223372036854775807) (hn : -9223372036854775808 <= n /\ n <= 9223372036854775807) : Fn Tryz.prog 26 [yf L, iv n] (.tup [mnA (mMk n), btsA (mzV L), .bool (ltQ (mMk n) (mzV L))]) := by
 have hz0 : [] = mzK L 0 := by unfold mzK; rfl
 refine Fn.go Tryz.func26 Tryz.ntmps26 (fun g w d => ?_);refine gq ?_;refine yb (zfz n hn) ?_;refine zB ?_;refine Ex.mo ?_;apply yI;refine yu ?_;iterate 2 apply yl
 refine X.imp (yL btE 76 3 8 30 rfl rfl) ?_;refine gq ?_
 refine yS (ι := Nat) (fun k => [(0, yf L), (4, .ptr 4 0 0 0), (6, .bool false), (7, .ptr 7 0 0 0), (8, .own 30), (9, iv (k : Int))]) (fun k => [(4, .box [iv 0, iv 0, iv 0, iv 0] 32), (7, .box (mnE (mMk n)) 32), (30, .row btE (mzK L k) 76 3)]) (fun (k : Nat) => k <= L.length /\ k <= 4) (fun (k : Nat) => L.length - k) 0 (fun k hk => ?_) (hJ := by exact ⟨by omega, by omega⟩) (h0 := by exact yd)
 obtain ⟨hk1, hk2⟩ := hk;apply yl;apply yg;iterate 4 refine ya ?_
 refine ExF.at 4 ?_;refine yA ?_;iterate 2 refine ExF.gi ?_
 refine gf ?_ ?_<;>intro hc1
 ·obtain ⟨x, hx⟩ : ∃ x, L[k]? = some x := ⟨_, lgg (by omega)⟩;have hx2 : L[(k : Int).toNat]? = some x := by simpa using hx
  have hxr := hr x (List.mem_of_getElem? hx);have hst := zt6 hx;have hlt := zlp L k;have hxm : 0 <= x % 1048576 := Int.emod_nonneg _ (by decide);have hti0 : 0 <= x % 1048576 % 9 := by omega
  have hT9 : T9.length = 9 := rfl;have hti := zq8 (i := x % 1048576 % 9) hti0 (by omega);refine gq ?_;refine yb (zbr x 1048576 hxr (by decide)) ?_;refine gq ?_;refine yb (zN 2 1 ⟨2, 1⟩ (by kernel_rfl)) ?_;refine yb (zN 4 1 ⟨4, 1⟩ (by kernel_rfl)) ?_;refine yb (zN 6 1 ⟨6, 1⟩ (by kernel_rfl)) ?_;refine yb (zN 1 1 ⟨1, 1⟩ (by kernel_rfl)) ?_;refine yb (zN 3 1 ⟨3, 1⟩ (by kernel_rfl)) ?_;refine yb (zN 3 2 ⟨3, 2⟩ (by kernel_rfl)) ?_;refine yb (zN 1 2 ⟨1, 2⟩ (by kernel_rfl)) ?_;refine yb (zN 5 1 ⟨5, 1⟩ (by kernel_rfl)) ?_;refine yb (zN 9 1 ⟨9, 1⟩ (by kernel_rfl)) ?_;refine yJ tmE T9 ?_;refine gq ?_;refine Ex.stepA (Pur.stepA (zcd rfl rfl hti rfl rfl TyK.h)) rfl rfl ?_;refine gq ?_;refine yJ btE [mzB x] ?_;refine gq ?_
  refine yz (k + 1) (hJ := by exact ⟨by omega, by omega⟩) (hI := yd)
 ·have hV : mzK L k = mzV L := zt7 hk1 hk2 (by omega);apply X.exit;apply yl;refine X.imp (Imp.freeze (k := 30) rfl) ?_;refine X.drawQ [⟨0, 50, mnA (mMk n), []⟩, ⟨1, 51, btsA (mzK L k), []⟩, ⟨2, 52, mnA (mMk n), []⟩, ⟨3, 53, btsA (mzK L k), []⟩] [(4, [3, 2]), (5, [3, 2, 4, 0]), (6, [3, 2, 4, 0, 5, 1]), (7, [5, 3, 2, 1, 0, 6, 4])] (fun j => match j with | 0 => ⟨[(4, .ptr 4 0 0 0), (7, .ptr 7 0 0 0), (8, btsA (mzK L k))], [(4, .box [iv 0, iv 0, iv 0, iv 0] 32), (7, .box (mnE (mMk n)) 32)]⟩ | 1 => ⟨[(4, .ptr 4 0 0 0), (7, .ptr 7 0 0 0), (8, btsA (mzK L k)), (54, .bool (ltQ (mMk n) (mzK L k)))], [(4, .box [iv 0, iv 0, iv 0, iv 0] 32), (7, .box (mnE (mMk n)) 32)]⟩ | 2 => ⟨[(4, .ptr 4 0 0 0), (7, .ptr 7 0 0 0), (8, btsA (mzK L k)), (54, .bool (ltQ (mMk n) (mzK L k)))], [(4, .box (mnE (mMk n)) 32), (7, .box (mnE (mMk n)) 32)]⟩ | 3 => ⟨[(4, .ptr 4 0 0 0), (7, .ptr 7 0 0 0), (8, btsA (mzK L k)), (54, .bool (ltQ (mMk n) (mzK L k))), (5, btsA (mzK L k))], [(4, .box (mnE (mMk n)) 32), (7, .box (mnE (mMk n)) 32)]⟩ | _ => ⟨[(4, .ptr 4 0 0 0), (5, btsA (mzK L k)), (6, .bool (ltQ (mMk n) (mzK L k)))], [(4, .box (mnE (mMk n)) 32), (7, .box (mnE (mMk n)) 32)]⟩) mo (by kernel_rfl) (zbb (ye)) (fun j hj => ?_) (fun j c hc β hβ => ?_) ?_
  ·rcases j with _ | _ | _ | _ | _ | j
   ·exact ze
   ·exact ze
   ·exact ze
   ·exact ze
   ·exact ze
   ·exact absurd (show j + 5 <= 4 from hj) (by omega)
  ·rcases j with _ | _ | _ | _ | j
   ·obtain rfl : (4, [3, 2]) = c := by injection hc
    refine yh rfl (yD (st0 := ⟨[(50, .ifb (β 0) (mnA (mMk n))), (51, .ifb (β 1) (btsA (mzK L k))), (52, mnA (mMk n)), (53, btsA (mzK L k)), (4, .ptr 4 0 0 0), (7, .ptr 7 0 0 0), (8, btsA (mzK L k))], [(4, .box [iv 0, iv 0, iv 0, iv 0] 32), (7, .box (mnE (mMk n)) 32)]⟩) (yy) ?_);refine yw.imp (yo (zb6 rfl rfl rfl (LeL.refl _) (zej (mMk n) (mzK L k) (by have := zlp L k; omega))) rfl rfl) (yy)
   ·obtain rfl : (5, [3, 2, 4, 0]) = c := by injection hc
    refine yh rfl (yD (st0 := ⟨[(50, mnA (mMk n)), (51, .ifb (β 1) (btsA (mzK L k))), (52, mnA (mMk n)), (53, btsA (mzK L k)), (4, .ptr 4 0 0 0), (7, .ptr 7 0 0 0), (8, btsA (mzK L k)), (54, .bool (ltQ (mMk n) (mzK L k)))], [(4, .box [iv 0, iv 0, iv 0, iv 0] 32), (7, .box (mnE (mMk n)) 32)]⟩) (yy) ?_);refine yw.imp (zf0 rfl rfl rfl rfl ty32 rfl (leB rfl)) (yy)
   ·obtain rfl : (6, [3, 2, 4, 0, 5, 1]) = c := by injection hc
    refine yh rfl (yD (st0 := ⟨[(50, mnA (mMk n)), (51, btsA (mzK L k)), (52, mnA (mMk n)), (53, btsA (mzK L k)), (4, .ptr 4 0 0 0), (7, .ptr 7 0 0 0), (8, btsA (mzK L k)), (54, .bool (ltQ (mMk n) (mzK L k)))], [(4, .box (mnE (mMk n)) 32), (7, .box (mnE (mMk n)) 32)]⟩) (yy) ?_);refine yw.imp (yo (Pur.stepA y9) rfl rfl) (yy)
   ·obtain rfl : (7, [5, 3, 2, 1, 0, 6, 4]) = c := by injection hc
    refine yh rfl (yD (st0 := ⟨[(50, mnA (mMk n)), (51, btsA (mzK L k)), (52, mnA (mMk n)), (53, btsA (mzK L k)), (4, .ptr 4 0 0 0), (7, .ptr 7 0 0 0), (8, btsA (mzK L k)), (54, .bool (ltQ (mMk n) (mzK L k))), (5, btsA (mzK L k))], [(4, .box (mnE (mMk n)) 32), (7, .box (mnE (mMk n)) 32)]⟩) (yy) ?_);refine yw.imp (yo (Pur.stepA y9) rfl rfl) (yy)
   ·exact absurd hc (by simp)
  refine gq ?_;refine RetQ.ret (.many (by decide) (.cons (.cellA rfl rfl rfl rfl ty32 (LeV.eq ?_)) (.cons (.tmp rfl (LeV.eq ?_)) (.cons (.tmp rfl (LeV.eq ?_)) .nil))));all_goals (first | rfl | exact congrArg (fun y => btsA y) hV | exact congrArg (fun y => AV.bool (ltQ (mMk n) y)) hV)
end
section
attribute [local irreducible] Pur yr yw Ex X Fn Imp LeV LeB FnO It yx FnW FnOW FnP FnD
attribute [local irreducible] ltQ mMk mzV wlV wyL wcnE wcnV hbM wrE wrV wisE wisB rdE rdV durB
set_option maxHeartbeats 8000000 in
set_option maxRecDepth 100000 in
theorem C_tactuslaw24_WritingsRead (nums : List Int) (n y : Int) (hr : ∀ x, x ∈ nums -> -9223372036854775808 <= x /\ x <= 9223372036854775807) (hnl : nums.length <= maxLen) (hn : -9223372036854775808 <= n /\ n <= 9223372036854775807) (hy : -9223372036854775808 <= y /\ y <= 9223372036854775807) : Fn Tryz.prog 6 [yf nums, iv n, iv y] (.bool true) := by
 have hmd := zex nums n hnl hr hn;have hM := zr5 n;have hml := zpe nums;have hmw := zr0 hM (L := nums);have hrq := zsU n;have hbd := yZ (y % 8);generalize mMk n = m at hmd hM hmw hrq;generalize mzV nums = z at hmd hml hmw;generalize hbM (y % 8) = b at hbd;refine Fn.go Tryz.func6 Tryz.ntmps6 (fun g w d => ?_);refine gq ?_;refine yb zbD ?_;refine gq ?_;refine yb hmd ?_;refine gd ?_ ?_<;>intro hc1
 ·refine gq ?_;all_goals (first | rfl | (rw [hwr]; rfl) | (rw [hwr.1]; rfl) | simp [hwr])
 have hwm := zsK hmw (by omega) hc1 b;have hln : (wyL m z b).length <= 4096 /\ ∀ y ∈ wyL m z b, y.length <= 24 := by have h := zk4 hwm; rw [show wlV m z b = wyL m z b by unfold wlV; rw [if_pos hwm]] at h; exact h
 have hAl : Fn Tryz.prog 24 [mnA m, btsA z, hbA b] (.tup [zF (wyL m z b), iv 0]) := by have h := zan m z b (by omega); rw [show wlV m z b = wyL m z b by unfold wlV; rw [if_pos hwm], hwm] at h; exact h
 have hCn : Fn Tryz.prog 23 [mnA m, btsA z, hbA b] (.tup [iv ((wyL m z b).length : Int), iv 0]) := by have h := zcG m z b (by omega); rw [show wlV m z b = wyL m z b by unfold wlV; rw [if_pos hwm], hwm] at h; exact h
 refine gq ?_;refine yb (zbr y 8 hy (by decide)) ?_;refine yb hbd ?_;refine gq ?_;refine yb hAl ?_;refine gq ?_;refine yb hCn ?_;refine zko ?_;apply yl;apply yg;iterate 2 refine ya ?_
 refine ExF.at 2 ?_;refine yA ?_;iterate 2 refine ExF.gi ?_
 iterate 2 refine yA ?_
 iterate 4 refine ExF.gi ?_
 refine gf ?_ ?_<;>intro hc2
 ·simp at hc2
 refine gq ?_
 refine yS (ι := Nat) (fun i => [(7, .bool true), (8, .ptr 8 0 0 0), (9, btsA z), (11, .ptr 11 0 0 0), (12, zF (wyL m z b)), (16, iv (i : Int))]) (fun i => [(8, .box (mnE m) 32), (11, .box (hbE b) 35)]) (fun (i : Nat) => i <= (wyL m z b).length) (fun (i : Nat) => (wyL m z b).length - i) 0 (fun i hk => ?_) (hJ := by exact Nat.zero_le _) (h0 := by exact yd)
 refine gd ?_ ?_<;>intro hc3
 ·obtain ⟨x, hx⟩ : ∃ x, (wyL m z b)[i]? = some x := ⟨_, lgg (by omega)⟩;have hx2 : (wyL m z b)[(i : Int).toNat]? = some x := by simpa using hx
  have hxm := List.mem_of_getElem? hx;have hxl := hln.2 x hxm;have hIs : Fn Tryz.prog 33 [mnA m, btsA z, sgsA x] (.tup [.bool true, iv 0]) := by have h := zkX m z x (by omega) (by omega); rw [(zok hmw hxm).1, (zok hmw hxm).2] at h; exact h
  have hDu : Fn Tryz.prog 34 [mnA m, sgsA x] (.tup [tmsA (durB z), iv 0]) := by have h := zdv m x (by omega); rw [(zkY hxm).2.2.1, (zkY hxm).2.2.2] at h; exact h
  have hdl := zhh z;refine gq ?_;refine zf [17,18,71,72,73,74,75,76,77,78,79,80] [0,0,0,0,12,28,63,127,255,255,511,2047] mo ?_;iterate 6 refine yc ?_
  refine yM hIs ?_;iterate 5 refine yc ?_
  refine yE ?_;refine gq ?_;refine zf [19,20,81,82,83,84,85,86,87,88,89] [0,0,0,6,14,31,63,127,127,255,1023] mo ?_;iterate 5 refine yc ?_
  refine yM hDu ?_;iterate 5 refine yc ?_
  refine yE ?_;apply Ex.nil;apply yl;apply yg;iterate 2 refine ya ?_
  refine ExF.at 2 ?_;refine yA ?_;iterate 2 refine ExF.gi ?_
  iterate 2 refine yA ?_
  iterate 2 refine ExF.gi ?_
  iterate 2 refine yA ?_
  iterate 5 refine ExF.gi ?_
  refine gf ?_ ?_<;>intro hc4
  ·simp [hdl] at hc4
  refine gq ?_
  refine yS (ι := Nat) (fun k => [(7, .bool true), (8, .ptr 8 0 0 0), (9, btsA z), (11, .ptr 11 0 0 0), (12, zF (wyL m z b)), (16, iv (i : Int)), (19, tmsA (durB z)), (21, iv (k : Int))]) (fun k => [(8, .box (mnE m) 32), (11, .box (hbE b) 35)]) (fun (k : Nat) => k <= z.length) (fun (k : Nat) => z.length - k) 0 (fun k hk => ?_) (hJ := by exact Nat.zero_le _) (h0 := by exact yd)
  refine gd ?_ ?_<;>intro hc5
  ·obtain ⟨e, he⟩ : ∃ e, z[k]? = some e := ⟨_, lgg (by omega)⟩;have he2 : z[(k : Int).toNat]? = some e := by simpa using he
   have he3 : (durB z)[(k : Int).toNat]? = some e.Dur := by unfold durB; rw [List.getElem?_map, he2]; rfl
   refine gq ?_;refine zf [113,114,115,116,117,118,119,120,121,122] [0,0,3,7,0,0,48,112,240,511] mo ?_;(iterate 10 refine yc ?_);refine yE ?_;refine gd ?_ ?_<;>intro hc6
   ·exact absurd rfl hc6
   refine gq ?_;refine yz (k + 1) (hI := yd)
  ·refine gq ?_
   refine yS (ι := Nat) (fun k => [(7, .bool true), (8, .ptr 8 0 0 0), (9, btsA z), (11, .ptr 11 0 0 0), (12, zF (wyL m z b)), (16, iv (i : Int)), (22, iv (k : Int))]) (fun k => [(8, .box (mnE m) 32), (11, .box (hbE b) 35)]) (fun (k : Nat) => k <= i) (fun (k : Nat) => i - k) 0 (fun k hk => ?_) (hJ := by exact Nat.zero_le _) (h0 := by exact yd)
   refine gd ?_ ?_<;>intro hc7
   ·obtain ⟨u, hu⟩ : ∃ u, (wyL m z b)[k]? = some u := ⟨_, lgg (by omega)⟩;have hu2 : (wyL m z b)[(k : Int).toNat]? = some u := by simpa using hu
    have hne := zu3 (zsR m z b) (by omega) hx hu;refine gq ?_;refine zf [128,129,130,131,132,133,134,135,136] [0,0,3,7,0,0,48,112,255] mo ?_;(iterate 8 refine yc ?_);refine yM (zt x u (by omega)) ?_;refine yE ?_;refine gd ?_ ?_<;>intro hc8
    ·exact absurd hc8 hne
    refine gq ?_;refine yz (k + 1) (hI := yd)
   ·refine gq ?_;refine yz (i + 1) (hI := yd)
 ·apply X.exit;apply yl;have hWr := zh0 m z b (by omega);refine gq ?_;refine yb hWr ?_;refine gd ?_ ?_<;>intro hc9
  ·have hwr := zu2 hmw hwm hrq (by omega);apply yg;refine ya ?_;refine ExF.at 1 ?_;refine yA ?_;(iterate 2 refine ExF.gi ?_);refine ge ?_;all_goals (first | rfl | (rw [hwr]; rfl) | (rw [hwr.1]; rfl) | simp [hwr])
  obtain ⟨u0, hu0⟩ : ∃ u, (wyL m z b)[0]? = some u := ⟨_, lgg (by omega)⟩;have hu3 : (wyL m z b)[(0 : Int).toNat]? = some u0 := hu0;have hul := hln.2 _ (List.mem_of_getElem? hu0);have hwr := zsT hmw hwm hrq hu0;apply yp;apply yg;refine ya ?_;refine ExF.at 1 ?_;refine gq ?_;refine ExF.cg (zt (wrV m z b) u0 (by rw [hwr.2]; omega)) ?_;refine ge ?_;all_goals (first | rfl | (rw [hwr]; rfl) | (rw [hwr.1]; rfl) | simp [hwr])
end
end Go.Rse
