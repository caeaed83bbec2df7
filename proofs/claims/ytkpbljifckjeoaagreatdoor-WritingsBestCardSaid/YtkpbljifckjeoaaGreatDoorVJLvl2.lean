/-
  Walks: the boundaries of a level, its segments without counts.
-/
import Derived.Test.YtkpbljifckjeoaaGreatDoorVJLvl1
set_option linter.unusedSimpArgs false
set_option linter.unusedVariables false
namespace Go.Rse
open Go Go.Proofs
attribute [local irreducible] Pur yw yy Ex X Fn Imp LeV LeB FnO It yz
def bdX (k : Int) (l : List Ite) : List (List AV) := (bds k l).map fun b => [bdA b]
theorem ziO {k : Int} {l : List Ite} {j : Nat} {zs : List AV} (h : (bdX k l)[j]? = some zs) : ∃ b, (bds k l)[j]? = some b /\ zs = [bdA b] := by
 rw [bdX, List.getElem?_map] at h;cases hk : (bds k l)[j]? with
 | none => simp [hk] at h
 | some b => simp [hk] at h; exact ⟨b, rfl, h.symm⟩
theorem zlf (k : Int) (l : List Ite) : (bdX k l).length = (bdK k l l.length).length + 1 := by unfold bdX; rw [List.length_map, zeV]
theorem zlg {k : Int} {l : List Ite} (n : Nat) : ∀ d, ∃ r, bdK k l (n + d) = bdK k l n ++ r
 | 0 => ⟨[], by simp⟩
 | d + 1 => by
  obtain ⟨r, hr⟩ := zlg (k := k) (l := l) n d;cases hx : l[n + d]? with
  | none =>
   have e : bdK k l (n + d + 1) = bdK k l (n + d) := by
    conv => lhs; unfold bdK
    rw [hx]
   exact ⟨r, by rw [show n + (d + 1) = n + d + 1 from rfl, e]; exact hr⟩
  | some x => exact ⟨r ++ ((if isH k x then [⟨(n + d : Nat), (n + d : Nat) + 1, false⟩] else []) ++ if isC k x then [⟨-1, (n + d : Nat) + 1, false⟩] else []), by
   show bdK k l ((n + d) + 1) = _;rw [zcF hx, hr]; simp only [List.append_assoc]⟩
theorem zkv {k : Int} {l : List Ite} {n : Nat} {p : List Bd} {b : Bd} {q : List Bd} (hn : n + 1 <= l.length) (h : bdK k l (n + 1) = p ++ b :: q) : (bds k l)[p.length]? = some b := by
 obtain ⟨r, hr⟩ := zlg (k := k) (l := l) (n + 1) (l.length - (n + 1));rw [show n + 1 + (l.length - (n + 1)) = l.length by omega, h] at hr;unfold bds;rw [hr]; simp
theorem zgM {k : Int} {l : List Ite} {i : Nat} {b : Bd} (h : (bds k l)[i]? = some b) : (bdX k l)[i]? = some [bdA b] := by
 unfold bdX; rw [List.getElem?_map, h]; rfl
theorem znc {k : Int} {l : List Ite} {n : Nat} {x : Ite} (hx : l[n]? = some x) (h : ¬ isH k x) :
 (bdK k l (n + 1)).length = (bdK k l n).length + (if isC k x then 1 else 0) /\ (isC k x -> (bdX k l)[(bdK k l n).length]? = some [bdA ⟨-1, (n : Int) + 1, false⟩]) := by
 have hs := zcF (k := k) hx;rw [if_neg h, List.append_nil] at hs;have hlt := (List.getElem?_eq_some_iff.1 hx).1;refine ⟨by rw [hs, List.length_append]; split <;> rfl, fun hc => zgM (zkv (q := []) (n := n) (by omega) (by rw [hs, if_pos hc]))⟩
theorem ztH {k : Int} {l : List Ite} {n : Nat} {x : Ite} (hx : l[n]? = some x) (h : isH k x) :
 (bdX k l)[(bdK k l n).length]? = some [bdA ⟨(n : Int), (n : Int) + 1, false⟩] /\ (bdK k l (n + 1)).length = (bdK k l n).length + 1 + (if isC k x then 1 else 0) /\ (isC k x -> (bdX k l)[(bdK k l n).length + 1]? = some [bdA ⟨-1, (n : Int) + 1, false⟩]) := by
 have hs := zcF (k := k) hx;rw [if_pos h] at hs;have hlt := (List.getElem?_eq_some_iff.1 hx).1;refine ⟨zgM (zkv (n := n) (by omega) (by rw [hs, List.append_assoc]; rfl)), by rw [hs, List.length_append, List.length_append]; split <;> rfl, fun hc => ?_⟩;have := zgM (zkv (k := k) (l := l) (p := bdK k l n ++ [⟨(n : Int), (n : Int) + 1, false⟩]) (q := []) (n := n) (b := ⟨-1, (n : Int) + 1, false⟩) (by omega) (by rw [hs, if_pos hc]));rw [List.length_append] at this; exact this
theorem zw6 (k : Int) (l : List Ite) : (bdX k l)[0]? = some [bdA ⟨-1, 0, false⟩] := zgM (zjH k l)
theorem zrR (k : Int) (l : List Ite) : (bdX k l)[(bdK k l l.length).length]? = some [bdA ⟨-1, (l.length : Int), true⟩] := zgM (by unfold bds; simp)
attribute [local irreducible] bdK bds bdX
set_option maxHeartbeats 4000000 in
theorem zdn (k : Int) (l : List Ite) (hl : l.length <= 4000000) : It Tryz.prog 239 [.ept (fun _ : Unit => [.sl itE l]) () 0, .ept (fun _ : Unit => [iv k]) () 0] (bdX k l) := by
 have hp0 : (bdK k l 0).length = 1 := by unfold bdK; rfl
 have hpl := zdX k l l.length;refine It.intro (ts := fun lY => [(0, .yv lY), (1, .ept (fun _ : Unit => [.sl itE l]) () 0), (2, .ept (fun _ : Unit => [iv k]) () 0)]) (n := 58) (by kernel_rfl) Tryz.func239 rfl Tryz.ntmps239 rfl (fun _ => rfl) (by simp) (fun g w d ds Y lY hY => ?_);apply yn;apply yg;iterate 2 refine ya ?_
 refine Ex.yield hY rfl rfl rfl (LeL.refl _) rfl rfl (zw6 k l) rfl (fun b => ?_);refine gd ?_ ?_<;>intro hc1
 ·subst hc1;refine X.ret ?_;refine ⟨.inr rfl, _, false, rfl, fun hb => by simp at hb⟩
 subst hc1;refine gq ?_;refine yZ (ι := Nat) (fun (n : Nat) => [(0, .yv lY), (1, .ept (fun _ : Unit => [.sl itE l]) () 0), (2, .ept (fun _ : Unit => [iv k]) () 0), (10, itsA l), (11, iv l.length), (12, iv (n : Int))]) (fun (n : Nat) => [(1000000, .yld (bdK k l n).length true)]) (fun (n : Nat) => n <= l.length) (fun (n : Nat) => l.length - n) 0 (fun n hk => ?_);refine gd ?_ ?_<;>intro hc2
 ·obtain ⟨x, hx⟩ : ∃ x, l[n]? = some x := ⟨_, lgg (by omega)⟩;have hx2 : l[(n : Int).toNat]? = some x := by simpa using hx
  apply yr;apply yn;apply X.block;apply yg;iterate 3 refine ya ?_
  refine zD ?_;refine ya ?_;refine Ex.mo ?_;apply Ex.nil;iterate 2 apply yn
  have hcs : x.Color = true \/ (x.Color = false /\ ¬ x.Value <= k) \/ (x.Color = false /\ x.Value <= k) := by cases x.Color <;> simp; omega
  rcases hcs with hp | ⟨hp, hq⟩ | ⟨hp, hq⟩
  ·have hg3 : ((!x.Color) == true) = false := by rw [hp]; rfl
   have hnh : ¬ isH k x := fun h => by rw [h.1] at hp; cases hp
   have hZ := znc (k := k) hx hnh;obtain ⟨hS, hC⟩ := hZ;apply yo;(iterate 4 refine ya ?_);(iterate 4 refine zaR ?_);(iterate 2 refine ya ?_);(iterate 7 refine zaR ?_);refine gd ?_ ?_<;>intro hc3
   ·exact absurd hc3 (by decide)
   apply yr;apply yn;have hcs2 : ¬ 0 < x.Cut \/ (0 < x.Cut /\ ¬ x.Cut <= k) \/ (0 < x.Cut /\ x.Cut <= k) := by omega
   rcases hcs2 with ha | ⟨ha, hb2⟩ | ⟨ha, hb2⟩
   ·have hg3 : (decide (0 < x.Cut) == true) = false := by rw [decide_eq_false ha]; rfl
    rw [if_neg (fun h => ha h.1), Nat.add_zero] at hS;apply yo;(iterate 4 refine ya ?_);(iterate 4 refine zaR ?_);(iterate 2 refine ya ?_);(iterate 6 refine zaR ?_);refine gd ?_ ?_<;>intro hc4
    ·exact absurd hc4 (by decide)
    refine gq ?_;refine yD (n + 1)
   ·have hg3 : (decide (0 < x.Cut) == true) = true := by rw [decide_eq_true ha]; rfl
    have hg9 : (decide (x.Cut <= k) == true) = false := by rw [decide_eq_false hb2]; rfl
    rw [if_neg (fun h => hb2 h.2), Nat.add_zero] at hS;apply yo;(iterate 4 refine ya ?_);(iterate 4 refine zJ ?_);(iterate 2 refine ya ?_);(iterate 6 refine zaR ?_);refine gd ?_ ?_<;>intro hc5
    ·exact absurd hc5 (by decide)
    refine gq ?_;refine yD (n + 1)
   ·have hg3 : (decide (0 < x.Cut) == true) = true := by rw [decide_eq_true ha]; rfl
    have hg9 : (decide (x.Cut <= k) == true) = true := by rw [decide_eq_true hb2]; rfl
    have hY2 := hC ⟨ha, hb2⟩;rw [if_pos ⟨ha, hb2⟩] at hS;apply yo;(iterate 4 refine ya ?_);(iterate 4 refine zJ ?_);(iterate 2 refine ya ?_);(iterate 4 refine zJ ?_);refine zbj hY rfl rfl rfl (fun _ => ⟨_, _, rfl, rfl, rfl, LeL.refl _, rfl, rfl, hY2, fun b => ?_⟩) (fun h => absurd (h.symm.trans hg9) (by decide));refine zJ ?_;refine gd ?_ ?_<;>intro hc6
    ·subst hc6;refine X.ret ?_;refine ⟨.inr rfl, _, false, rfl, fun hb => by simp at hb⟩
    subst hc6;refine gq ?_;refine yD (n + 1)
  ·have hg3 : ((!x.Color) == true) = true := by rw [hp]; rfl
   have hg9 : (decide (x.Value <= k) == true) = false := by rw [decide_eq_false hq]; rfl
   have hnh : ¬ isH k x := fun h => hq h.2
   have hZ := znc (k := k) hx hnh;obtain ⟨hS, hC⟩ := hZ;apply yo;(iterate 4 refine ya ?_);(iterate 4 refine zJ ?_);(iterate 2 refine ya ?_);(iterate 7 refine zaR ?_);refine gd ?_ ?_<;>intro hc7
   ·exact absurd hc7 (by decide)
   apply yr;apply yn;have hcs2 : ¬ 0 < x.Cut \/ (0 < x.Cut /\ ¬ x.Cut <= k) \/ (0 < x.Cut /\ x.Cut <= k) := by omega
   rcases hcs2 with ha | ⟨ha, hb2⟩ | ⟨ha, hb2⟩
   ·have hg3 : (decide (0 < x.Cut) == true) = false := by rw [decide_eq_false ha]; rfl
    rw [if_neg (fun h => ha h.1), Nat.add_zero] at hS;apply yo;(iterate 4 refine ya ?_);(iterate 4 refine zaR ?_);(iterate 2 refine ya ?_);(iterate 6 refine zaR ?_);refine gd ?_ ?_<;>intro hc8
    ·exact absurd hc8 (by decide)
    refine gq ?_;refine yD (n + 1)
   ·have hg3 : (decide (0 < x.Cut) == true) = true := by rw [decide_eq_true ha]; rfl
    have hg9 : (decide (x.Cut <= k) == true) = false := by rw [decide_eq_false hb2]; rfl
    rw [if_neg (fun h => hb2 h.2), Nat.add_zero] at hS;apply yo;(iterate 4 refine ya ?_);(iterate 4 refine zJ ?_);(iterate 2 refine ya ?_);(iterate 6 refine zaR ?_);refine gd ?_ ?_<;>intro hc9
    ·exact absurd hc9 (by decide)
    refine gq ?_;refine yD (n + 1)
   ·have hg3 : (decide (0 < x.Cut) == true) = true := by rw [decide_eq_true ha]; rfl
    have hg9 : (decide (x.Cut <= k) == true) = true := by rw [decide_eq_true hb2]; rfl
    have hY2 := hC ⟨ha, hb2⟩;rw [if_pos ⟨ha, hb2⟩] at hS;apply yo;(iterate 4 refine ya ?_);(iterate 4 refine zJ ?_);(iterate 2 refine ya ?_);(iterate 4 refine zJ ?_);refine zbj hY rfl rfl rfl (fun _ => ⟨_, _, rfl, rfl, rfl, LeL.refl _, rfl, rfl, hY2, fun b => ?_⟩) (fun h => absurd (h.symm.trans hg9) (by decide));refine zJ ?_;refine gd ?_ ?_<;>intro hc10
    ·subst hc10;refine X.ret ?_;refine ⟨.inr rfl, _, false, rfl, fun hb => by simp at hb⟩
    subst hc10;refine gq ?_;refine yD (n + 1)
  ·have hg3 : ((!x.Color) == true) = true := by rw [hp]; rfl
   have hg9 : (decide (x.Value <= k) == true) = true := by rw [decide_eq_true hq]; rfl
   have hZ := ztH (k := k) hx ⟨hp, hq⟩;obtain ⟨hY1, hS, hC⟩ := hZ;apply yo;(iterate 4 refine ya ?_);(iterate 4 refine zJ ?_);(iterate 2 refine ya ?_);(iterate 5 refine zJ ?_);refine zbj hY rfl rfl rfl (fun _ => ⟨_, _, rfl, rfl, rfl, LeL.refl _, rfl, rfl, hY1, fun b => ?_⟩) (fun h => absurd (h.symm.trans hg9) (by decide));refine zJ ?_;refine gd ?_ ?_<;>intro hc11
   ·subst hc11;refine X.ret ?_;refine ⟨.inr rfl, _, false, rfl, fun hb => by simp at hb⟩
   subst hc11;apply yr;apply yn;have hcs2 : ¬ 0 < x.Cut \/ (0 < x.Cut /\ ¬ x.Cut <= k) \/ (0 < x.Cut /\ x.Cut <= k) := by omega
   rcases hcs2 with ha | ⟨ha, hb2⟩ | ⟨ha, hb2⟩
   ·have hg3 : (decide (0 < x.Cut) == true) = false := by rw [decide_eq_false ha]; rfl
    rw [if_neg (fun h => ha h.1), Nat.add_zero] at hS;apply yo;(iterate 4 refine ya ?_);(iterate 4 refine zaR ?_);(iterate 2 refine ya ?_);(iterate 6 refine zaR ?_);refine gd ?_ ?_<;>intro hc12
    ·exact absurd hc12 (by decide)
    refine gq ?_;refine yD (n + 1)
   ·have hg3 : (decide (0 < x.Cut) == true) = true := by rw [decide_eq_true ha]; rfl
    have hg9 : (decide (x.Cut <= k) == true) = false := by rw [decide_eq_false hb2]; rfl
    rw [if_neg (fun h => hb2 h.2), Nat.add_zero] at hS;apply yo;(iterate 4 refine ya ?_);(iterate 4 refine zJ ?_);(iterate 2 refine ya ?_);(iterate 6 refine zaR ?_);refine gd ?_ ?_<;>intro hc13
    ·exact absurd hc13 (by decide)
    refine gq ?_;refine yD (n + 1)
   ·have hg3 : (decide (0 < x.Cut) == true) = true := by rw [decide_eq_true ha]; rfl
    have hg9 : (decide (x.Cut <= k) == true) = true := by rw [decide_eq_true hb2]; rfl
    have hY2 := hC ⟨ha, hb2⟩;rw [if_pos ⟨ha, hb2⟩] at hS;apply yo;(iterate 4 refine ya ?_);(iterate 4 refine zJ ?_);(iterate 2 refine ya ?_);(iterate 4 refine zJ ?_);refine zbj hY rfl rfl rfl (fun _ => ⟨_, _, rfl, rfl, rfl, LeL.refl _, rfl, rfl, hY2, fun b => ?_⟩) (fun h => absurd (h.symm.trans hg9) (by decide));refine zJ ?_;refine gd ?_ ?_<;>intro hc14
    ·subst hc14;refine X.ret ?_;refine ⟨.inr rfl, _, false, rfl, fun hb => by simp at hb⟩
    subst hc14;refine gq ?_;refine yD (n + 1)
 ·have hkl : n = l.length := by omega
  subst hkl;apply X.exit;apply yo;iterate 4 refine ya ?_
  refine Ex.yield hY rfl rfl rfl (LeL.refl _) rfl rfl (zrR k l) rfl (fun b => ?_);apply Ex.nil;refine ⟨.inl rfl, _, b, rfl, fun h => by rw [zlf, h]; rfl⟩
theorem zet (k : Int) (l : List Ite) : Fn Tryz.prog 222 [iv k, itsA l] (.fn 239 [.ept (fun _ : Unit => [.sl itE l]) () 0, .ept (fun _ : Unit => [iv k]) () 0]) := by
 refine Fn.go Tryz.func222 Tryz.ntmps222 (fun g w d => ?_);apply yg;iterate 2 refine zbE ?_
 refine ya ?_;apply yK;refine zq ?_;refine X.ret ?_;refine RetQ.imp ((yS (k := 2) rfl rfl).trans (yS (k := 3) rfl rfl)) ?_;refine gq ?_;all_goals (first | rfl | (simp_all; done))
end Go.Rse
namespace Go.Rse
open Go Go.Proofs
attribute [local irreducible] Pur yw yy Ex X Fn Imp LeV LeB FnO It yz
def fsB : Nat -> Bool
 | 0 => true
 | _ + 1 => false
def lsB (k : Int) (l : List Ite) : Nat -> Bd
 | 0 => ⟨0, 0, false⟩
 | j + 1 => (bds k l).getD j default
theorem zgN {k : Int} {l : List Ite} {j : Nat} {b : Bd} (h : (bds k l)[j]? = some b) : b = lsB k l (j + 1) := by
 show b = (bds k l).getD j default;rw [List.getD_eq_getElem?_getD, h]; rfl
theorem znd {k : Int} {l : List Ite} {j : Nat} (h : j < (bds k l).length) : (lsB k l (j + 1)).item < l.length := by
 have hb : (bds k l)[j]? = some (bds k l)[j] := lgg h;rw [← zgN hb];have h2 := (zm8 k l).1 _ (List.mem_of_getElem? hb);have := h2.hi;rcases h2.it with h3 | ⟨h3, h4, h5⟩ <;> omega
theorem zo6 {k : Int} {l : List Ite} {j : Nat} (h : j + 1 < (bds k l).length) : sgs0 l ((bds k l).take (j + 1)) ++ [sg0 l (lsB k l (j + 1)) (lsB k l (j + 2))] = sgs0 l ((bds k l).take (j + 2)) := by
 have hb : (bds k l)[j]? = some (bds k l)[j] := lgg (by omega);have hc : (bds k l)[j + 1]? = some (bds k l)[j + 1] := lgg h
 have e2 : (bds k l).take (j + 2) = ((bds k l).take j ++ [(bds k l)[j]]) ++ [(bds k l)[j + 1]] := by
  rw [List.take_add_one, List.take_add_one, hb, hc]; rfl
 have e1 : (bds k l).take (j + 1) = (bds k l).take j ++ [(bds k l)[j]] := by rw [List.take_add_one, hb]; rfl
 rw [e2, e1, zid, ← zgN hb, ← zgN hc]
theorem zrS {k : Int} {l : List Ite} : sgs0 l ((bds k l).take 0) = sgs0 l ((bds k l).take 1) := by
 cases bds k l with
 | nil => rfl
 | cons b r => rfl
theorem zne (k : Int) (l : List Ite) (j : Nat) : (sgs0 l ((bds k l).take j)).length <= 2 * l.length + 2 := by
 have h := zdX k l l.length;have h2 := zeV k l;rw [zfg, List.length_take]; omega
theorem zrT {k : Int} {l : List Ite} {j : Nat} (h : j < (bds k l).length) : ((lsB k l (j + 1)).fin = true -> j + 1 = (bds k l).length) /\ ((lsB k l (j + 1)).fin = false -> j + 1 < (bds k l).length) := by
 have hb : (bds k l)[j]? = some (bds k l)[j] := lgg h;rw [← zgN hb];have := zoY hb;rw [this];constructor
 ·intro h; simpa using h
 ·intro h;have : ¬ j + 1 = (bds k l).length := by simpa using h
  omega
theorem znf {k : Int} {l : List Ite} {j : Nat} (hf : fsB j = false) (h : j < (bds k l).length) : sgs0 l ((bds k l).take j) ++ [sg0 l (lsB k l j) (lsB k l (j + 1))] = sgs0 l ((bds k l).take (j + 1)) := by
 cases j with
 | zero => cases hf
 | succ i => exact zo6 h
theorem zo7 {k : Int} {l : List Ite} {j : Nat} (hf : fsB j = true) : sgs0 l ((bds k l).take j) = sgs0 l ((bds k l).take (j + 1)) := by
 cases j with
 | zero => exact zrS
 | succ i => cases hf
theorem zo8 {k : Int} {l : List Ite} {j : Nat} (hf : fsB j = false) (h : j < (bds k l).length) : (lsB k l j).item < l.length := by
 cases j with
 | zero => cases hf
 | succ i => exact znd (by omega)
attribute [local irreducible] bdK bds bdX sgs0 hdI
set_option maxHeartbeats 4000000 in
theorem zdf (q : List Ite) (k : Int) (hl : q.length <= 1000000) : FnO Tryz.prog 207 [.agg [itsA q], iv k] [] [] (.own 39) [(39, .row smE (sgs0 q (bds k q)) 232 7)] := by
 have hf0 : fsB 0 = true := by unfold fsB; rfl
 have hl0 : lsB k q 0 = ⟨0, 0, false⟩ := by unfold lsB; rfl
 have ht0 : [] = sgs0 q ((bds k q).take 0) := by rw [List.take_zero]; unfold sgs0; rfl
 have htl : sgs0 q ((bds k q).take (bdX k q).length) = sgs0 q (bds k q) := by rw [zlf, ← zeV, List.take_length]
 refine FnO.intro (ts := [(0, .agg [itsA q]), (1, iv k)]) (rv := [.tmp 4]) (n := 43) (cs := []) (by kernel_rfl) Tryz.func207 rfl Tryz.ntmps207 rfl rfl (by simp) rfl rfl rfl rfl (fun g w d vh => ?_);apply yg;refine zbs ?_;refine ya ?_;apply yK;refine zD ?_;apply Ex.nil;apply yn;refine X.imp (zaL smE 232 7 5 39 228 rfl rfl) ?_;refine gq ?_;refine yb (zet k q) ?_;refine gq ?_;refine X.range (sl := [2, 5, 6, 7]) (fun j => ([.ptr 2 0 0 0, .ptr 5 0 0 0, .ptr 6 0 0 0, .ptr 7 0 0 0], [(1000001, .hold vh []), (2, .box [itsA q] 240), (5, .box [.own 39] 228), (39, .row smE (sgs0 q ((bds k q).take j)) 232 7), (6, .box (bdE (lsB k q j)) 277), (7, .box [.bool (fsB j)] 4)])) (fun j => True) 900001 900002 rfl rfl (by decide) (fun j zs hj => by obtain ⟨i, _, rfl⟩ := ziO hj; rfl) (zdn k q (by omega)) trivial rfl rfl (by decide) (Nat.zero_le _) (by simp) (fun j zs hj => by obtain ⟨i, _, rfl⟩ := ziO hj; rfl) (fun _ => rfl) rfl rfl (fun l o us => yd) (trivial) (fun j zs hj hJ l ready busy rb vs g w hb hyB => ?_) (fun hJ => ?_)
 ·have hZ1 := ziO hj;obtain ⟨b, hb0, rfl⟩ := hZ1;have hbe := zgN hb0;subst hbe;have hjl : j < (bds k q).length := (List.getElem?_eq_some_iff.1 hb0).1;have hlt := zne k q j;have hfin := zrT hjl;have hfs : fsB (j + 1) = false := by unfold fsB; rfl
  apply yo;refine zD ?_;refine Ex.mo ?_;apply Ex.nil;refine ⟨rfl, rfl, ?_⟩;refine gd ?_ ?_<;>intro hc1
  ·have hb1 := zo8 hc1 hjl;have hb2 := znd (k := k) (l := q) (j := j) hjl;have hst := znf hc1 hjl;unfold sg0 bdF at hst;refine gd ?_ ?_<;>intro hc2
   ·rw [if_pos hc2] at hst;refine gq ?_;refine zn [24,25,26,27,28,29,30,31,32,33,34,35,36,37] [0,0,2,0,0,0,48,0,0,496,0,1024,4094,8190,16383,32767] mo ?_;(iterate 6 refine yc ?_);refine yT (zad q (lsB k q j) hb1) ?_;(iterate 2 refine yc ?_);refine yT (zad q (lsB k q (j + 1)) hb2) ?_;(iterate 3 refine yc ?_);refine ChM.step rfl rfl rfl (yG (k := 37) (enc := smE) (l := [⟨(lsB k q j).next, (lsB k q (j + 1)).item, hdI q (lsB k q j), hdI q (lsB k q (j + 1)), (lsB k q (j + 1)).fin, ⟨0, 0⟩⟩]) zoH zoE zoF (by decide) rfl rfl rfl rfl (by decide) (by decide) (fun _ => rfl) rfl) rfl ?_;refine yM ?_;refine gd ?_ ?_<;>intro hc3
    ·have htk : (bds k q).take (j + 1) = bds k q := by rw [hfin.1 hc3, List.take_length]
     rw [htk] at hst;apply X.exit;refine ⟨[.ptr 2 0 0 0, .ptr 5 0 0 0, .ptr 6 0 0 0, .ptr 7 0 0 0], [(1000001, .hold vh []), (5, .box [.own 39] 228), (39, .row smE (sgs0 q (bds k q)) 232 7)], yd, ?_⟩;apply yg;refine zq ?_;refine X.ret ?_;refine zlX.mk (ts := [(4, .own 39)]) (.inr rfl) (yd) (.one (.tmp rfl (LeV.eq rfl)))
    apply yr;refine ⟨[.ptr 2 0 0 0, .ptr 5 0 0 0, .ptr 6 0 0 0, .ptr 7 0 0 0], [(1000001, .hold vh []), (2, .box [itsA q] 240), (5, .box [.own 39] 228), (39, .row smE (sgs0 q ((bds k q).take (j + 1))) 232 7), (6, .box (bdE (lsB k q (j + 1))) 277), (7, .box [.bool (fsB (j + 1))] 4)], yd, rfl, trivial⟩
   ·rw [if_neg (by omega)] at hst;apply yr;refine zn [24,25,26,27,28,29,30,31,32,33,34,35,36,37] [0,0,2,0,0,0,48,0,0,496,0,1024,4094,8190,16383,32767] mo ?_;(iterate 6 refine yc ?_);refine yT (zad q (lsB k q j) hb1) ?_;(iterate 2 refine yc ?_);refine yT (zad q (lsB k q (j + 1)) hb2) ?_;(iterate 3 refine yc ?_);refine ChM.step rfl rfl rfl (yG (k := 37) (enc := smE) (l := [⟨(lsB k q j).next, (lsB k q (j + 1)).next, hdI q (lsB k q j), hdI q (lsB k q (j + 1)), (lsB k q (j + 1)).fin, ⟨0, 0⟩⟩]) zoH zoE zoF (by decide) rfl rfl rfl rfl (by decide) (by decide) (fun _ => rfl) rfl) rfl ?_;refine yM ?_;refine gd ?_ ?_<;>intro hc4
    ·have htk : (bds k q).take (j + 1) = bds k q := by rw [hfin.1 hc4, List.take_length]
     rw [htk] at hst;apply X.exit;refine ⟨[.ptr 2 0 0 0, .ptr 5 0 0 0, .ptr 6 0 0 0, .ptr 7 0 0 0], [(1000001, .hold vh []), (5, .box [.own 39] 228), (39, .row smE (sgs0 q (bds k q)) 232 7)], yd, ?_⟩;apply yg;refine zq ?_;refine X.ret ?_;refine zlX.mk (ts := [(4, .own 39)]) (.inr rfl) (yd) (.one (.tmp rfl (LeV.eq rfl)))
    apply yr;refine ⟨[.ptr 2 0 0 0, .ptr 5 0 0 0, .ptr 6 0 0 0, .ptr 7 0 0 0], [(1000001, .hold vh []), (2, .box [itsA q] 240), (5, .box [.own 39] 228), (39, .row smE (sgs0 q ((bds k q).take (j + 1))) 232 7), (6, .box (bdE (lsB k q (j + 1))) 277), (7, .box [.bool (fsB (j + 1))] 4)], yd, rfl, trivial⟩
  ·have hst := zo7 (k := k) (l := q) hc1;refine gd ?_ ?_<;>intro hc5
   ·have htk : (bds k q).take (j + 1) = bds k q := by rw [hfin.1 hc5, List.take_length]
    rw [htk] at hst;apply X.exit;refine ⟨[.ptr 2 0 0 0, .ptr 5 0 0 0, .ptr 6 0 0 0, .ptr 7 0 0 0], [(1000001, .hold vh []), (5, .box [.own 39] 228), (39, .row smE (sgs0 q (bds k q)) 232 7)], yd, ?_⟩;apply yg;refine zq ?_;refine X.ret ?_;refine zlX.mk (ts := [(4, .own 39)]) (.inr rfl) (yd) (.one (.tmp rfl (LeV.eq rfl)))
   apply yr;refine ⟨[.ptr 2 0 0 0, .ptr 5 0 0 0, .ptr 6 0 0 0, .ptr 7 0 0 0], [(1000001, .hold vh []), (2, .box [itsA q] 240), (5, .box [.own 39] 228), (39, .row smE (sgs0 q ((bds k q).take (j + 1))) 232 7), (6, .box (bdE (lsB k q (j + 1))) 277), (7, .box [.bool (fsB (j + 1))] 4)], yd, rfl, trivial⟩
 apply yg;refine zq ?_;refine X.ret ?_;refine zlX.mk (ts := [(4, .own 39)]) (.inr rfl) (yd) (.one (.tmp rfl (LeV.eq rfl)))
end Go.Rse
