/-
  Walks: lists of times searched and compared; a list of items cloned; the perfect values collected.
-/
import Derived.Test.YtkpbljifckjeoaaGreatDoorQJDurs1
import Derived.Test.YtkpbljifckjeoaaGreatDoorQJSpan1
import Derived.Test.YtkpbljifckjeoaaGreatDoorQJTime
import Derived.Test.YtkpbljifckjeoaaGreatDoorQJSpell1
import Derived.Test.YtkpbljifckjeoaaGreatDoorQLogC
set_option linter.unusedSimpArgs false
set_option linter.unusedVariables false
namespace Go.Rse
open Go Go.Proofs
attribute [local irreducible] Pur yC yE Ex X Fn Imp LeV LeB FnO It yJ
def tfx (t : Tm) (l : List Tm) : Int := if l.findIdx (fun u => decide (t = u)) < l.length then (l.findIdx (fun u => decide (t = u)) : Int) else -1
theorem znP {t : Tm} {l : List Tm} {k : Nat} {v : Tm} (hv : l[k]? = some v) (hp : t = v) (hJ : ∀ i u, i < k -> l[i]? = some u -> ¬ t = u) : tfx t l = k := by
 have hk : k < l.length := (List.getElem?_eq_some_iff.1 hv).1;have hg : l[k] = v := (List.getElem?_eq_some_iff.1 hv).2;have : l.findIdx (fun u => decide (t = u)) = k := (List.findIdx_eq hk).2 ⟨by rw [hg]; simpa using hp, fun j hj => by simpa using hJ j _ hj (lgg (by omega))⟩;unfold tfx; rw [this, if_pos hk]
theorem zmm {t : Tm} {l : List Tm} (hJ : ∀ i u, i < l.length -> l[i]? = some u -> ¬ t = u) : tfx t l = -1 := by
 have : l.findIdx (fun u => decide (t = u)) = l.length := List.findIdx_eq_length.2 fun x hx => by
  obtain ⟨i, hi⟩ := List.mem_iff_getElem?.1 hx;simpa using hJ i x (List.getElem?_eq_some_iff.1 hi).1 hi
 unfold tfx; rw [if_neg (by omega)]
theorem znQ (t : Tm) (l : List Tm) : decide (0 <= tfx t l) = decide (t ∈ l) := by
 by_cases h : t ∈ l
 ·have : l.findIdx (fun u => decide (t = u)) < l.length := List.findIdx_lt_length_of_exists ⟨t, h, by simp⟩;simp only [tfx, if_pos this, h]; simp
 ·have h2 : l.findIdx (fun u => decide (t = u)) = l.length := List.findIdx_eq_length.2 fun u hu => decide_eq_false fun e => h (e ▸ hu)
  have : ¬ l.findIdx (fun u => decide (t = u)) < l.length := by omega
  simp only [tfx, if_neg this, h]; simp
theorem zbD {α : Type} {l : List α} {j : Nat} {x : α} (h : l[j]? = some x) : l.take j ++ [x] = l.take (j + 1) := by
 rw [List.take_add_one, h]; rfl
theorem zhg (m : Mn) : (perfL m).length <= 4 := by
 unfold perfL;refine Nat.le_trans (List.length_filter_le _ _) ?_;simp
attribute [local irreducible] tfx perfL
theorem zaS (l : List Tm) (t : Tm) (hl : l.length <= 4000000000) : Fn Tryz.prog 151 [tmsA l, tmA t] (iv (tfx t l)) := by
 refine Fn.go Tryz.func151 Tryz.ntmps151 (fun g w d => ?_);apply yb;refine yF ?_;refine ye ?_;apply yd;apply yb;refine yo ?_;apply X.block
 refine zl (ι := Nat) (fun (k : Nat) => [(0, tmsA l), (3, .ptr 3 0 0 0), (7, iv l.length), (8, iv (k : Int))]) (fun (k : Nat) => [(3, .box (tmE t) 25)]) (fun (k : Nat) => k <= l.length /\ ∀ i u, i < k -> l[i]? = some u -> ¬ t = u) (fun (k : Nat) => l.length - k) 0 (fun k hk => ?_) (hJ := by
  exact ⟨by omega, fun i u h => absurd h (Nat.not_lt_zero i)⟩)
 obtain ⟨hk1, hk2⟩ := hk;apply yb;refine ye ?_;apply yd;refine yl rfl ?_ ?_<;>intro hc1
 ·obtain ⟨v, hv⟩ : ∃ v, l[k]? = some v := ⟨_, lgg (by omega)⟩;have hv2 : l[(k : Int).toNat]? = some v := by simpa using hv
  apply yf;apply yd;apply X.block;apply yb;refine yg ?_;apply yd;refine zz [11,12,13,14,15,16] [0,0,0,6,14,31] mo ?_;iterate 6 refine yk ?_
  refine yX ?_;apply Ex.nil;refine yl rfl ?_ ?_<;>intro hc2
  ·apply yb;refine yg ?_;refine X.ret ?_;refine yh ?_;all_goals (congr 1; exact (znP hv hc2 hk2).symm)
  apply yf;apply yc;refine yg ?_
  refine yM (k + 1) (hJ := by
   refine ⟨by omega, fun i u hi hu => ?_⟩;rcases Nat.lt_succ_iff_lt_or_eq.1 hi with h | h
   ·exact hk2 i u h hu
   ·subst h; rw [hv] at hu; injection hu with hu; subst hu; exact hc2)
 ·apply X.exit;apply yb;refine ye ?_;refine X.ret ?_;refine yh ?_;all_goals (congr 1; exact (zmm (fun i u hi => hk2 i u (by omega))).symm)
theorem zp (l : List Tm) (t : Tm) (hl : l.length <= 4000000000) : Fn Tryz.prog 111 [tmsA l, tmA t] (.bool (decide (t ∈ l))) := by
 refine Fn.go Tryz.func111 Tryz.ntmps111 (fun g w d => ?_);apply yb;refine yF ?_;refine ya ?_;apply yi;iterate 2 refine ya ?_
 refine yj (zaS l t hl) ?_;refine yg ?_;refine X.ret ?_;refine yh ?_;all_goals (congr 1; exact znQ t l)
theorem zaT (a b : List Tm) (hl : a.length <= 4000000000) : Fn Tryz.prog 70 [tmsA a, tmsA b] (.bool (decide (a = b))) := by
 refine Fn.go Tryz.func70 Tryz.ntmps70 (fun g w d => ?_);apply yb;refine ye ?_;apply yd;apply yb;refine zu ?_;refine yl rfl ?_ ?_<;>intro hc1
 ·have hD : decide (a = b) = false := by rw [decide_eq_false_iff_not]; intro h; subst h; exact hc1 rfl
  apply yb;refine ye ?_;refine X.ret ?_;refine yh ?_;all_goals (rw [hD])
 have hlen : a.length = b.length := by omega
 apply yf;apply yd;apply yb;refine yo ?_;apply X.block
 refine zl (ι := Nat) (fun (k : Nat) => [(0, tmsA a), (1, tmsA b), (12, iv a.length), (13, iv (k : Int))]) (fun (k : Nat) => []) (fun (k : Nat) => k <= a.length /\ a.take k = b.take k) (fun (k : Nat) => a.length - k) 0 (fun k hk => ?_) (hJ := by
  exact ⟨by omega, by simp⟩)
 obtain ⟨hk1, hk2⟩ := hk;apply yb;refine ye ?_;apply yd;refine yl rfl ?_ ?_<;>intro hc2
 ·obtain ⟨x, hx⟩ : ∃ x, a[k]? = some x := ⟨_, lgg (by omega)⟩;have hx2 : a[(k : Int).toNat]? = some x := by simpa using hx
  obtain ⟨y, hy⟩ : ∃ y, b[k]? = some y := ⟨_, lgg (by omega)⟩;have hy2 : b[(k : Int).toNat]? = some y := by simpa using hy
  apply yf;apply yd;apply X.block;apply yb;refine yg ?_;apply yd;refine zz [16,17,18,19,20,21,22,23,24] [0,0,3,7,0,0,48,112,255] mo ?_;iterate 9 refine yk ?_
  refine yX ?_;apply Ex.nil;refine yl rfl ?_ ?_<;>intro hc3
  ·have hD : decide (a = b) = false := by rw [decide_eq_false_iff_not]; intro h; subst h; rw [hx] at hy; injection hy with hy; exact hc3 hy
   apply yb;refine ye ?_;refine X.ret ?_;refine yh ?_;all_goals (rw [hD])
  apply yf;apply yc;refine yg ?_
  refine yM (k + 1) (hJ := by
   exact ⟨by omega, by rw [← zbD hx, ← zbD hy, hk2, hc3]⟩)
 ·have hD : decide (a = b) = true := by
   have h1 : k = a.length := by omega
   rw [decide_eq_true_iff]; subst h1; rw [List.take_length, hlen, List.take_length] at hk2; exact hk2
  apply X.exit;apply yb;refine ye ?_;refine X.ret ?_;refine yh ?_;all_goals (rw [hD])
theorem zR (l : List Ite) (hl : l.length <= 4000000) : FnO Tryz.prog 99 [itsA l] [] [] (.own 5) [(5, .row itE l 120 12)] := by
 refine FnO.intro (ts := [(0, itsA l)]) (rv := [.tmp 2]) (n := 8) (cs := []) (by kernel_rfl) Tryz.func99 rfl Tryz.ntmps99 rfl rfl (by simp) rfl rfl rfl rfl (fun g w d vs => ?_);apply yb;refine ye ?_;apply yd;apply yb;refine ya ?_;refine Ex.eqNil rfl zhF rfl (fun b hb => ?_);apply Ex.nil;refine yl rfl ?_ ?_<;>intro hc1
 ·have hl0 := hb hc1;subst hl0;subst hc1;apply yb;refine ye ?_;refine X.ret ?_;refine zkR.imp (ze itE 120 12 2 5 rfl rfl) ?_;refine zkR.mk (ts := [(2, .own 5)]) (.inr rfl) (yn) (.one (.tmp rfl (LeV.eq rfl)))
 apply yf;apply yb;refine yW itE [] ?_;refine ya ?_;refine Ex.mo ?_;refine ye ?_;refine X.ret ?_;refine zkR.mk (ts := [(2, .own 5)]) (.inr rfl) (yn) (.one (.tmp rfl (LeV.eq rfl)))
theorem zbE (m : Mn) : Fn Tryz.prog 174 [.nils, .fn 135 [.ept (fun _ : Unit => mnE m) () 0]] (ym (perfL m)) := by
 have hpl := zhg m;refine Fn.go Tryz.func174 Tryz.ntmps174 (fun g w d => ?_);apply yb;refine zbr ?_;refine ye ?_;iterate 2 apply yd
 refine X.imp (zaI intE 3 1 2 39 59 rfl rfl) ?_;apply yc;refine ye ?_;apply X.block;have ht0 : [] = (perfL m).take 0 := by simp
 have htl : (perfL m).take (zdS m).length = perfL m := by unfold zdS; rw [List.length_map, List.take_length]
 refine X.range (sl := [2]) (fun j => ([.ptr 2 0 0 0], [(2, .box [.own 39] 59), (39, .row intE ((perfL m).take j) 3 1)])) (fun j => True) 900001 900002 rfl rfl (by decide) (fun j zs hj => by obtain ⟨i, _, rfl⟩ := zbz hj; rfl) (zch m) trivial rfl rfl (by decide) (Nat.zero_le _) (by simp) (fun j zs hj => by obtain ⟨i, _, rfl⟩ := zbz hj; rfl) (fun _ => rfl) rfl rfl (fun l o us => yn) (trivial) (fun j zs hj hJ l ready busy rb vs g w hb hyB => ?_) (fun hJ => ?_)
 ·have hZ1 := zbz hj;obtain ⟨i, hi, rfl⟩ := hZ1;have hst := zbD hi;have hlt : ((perfL m).take j).length <= 1000 := by simp; omega
  apply yc;refine ye ?_;refine ⟨rfl, rfl, ?_⟩;apply X.block;apply yc;iterate 2 refine ya ?_
  refine yW intE [_] ?_;iterate 2 refine Ex.mo ?_
  apply Ex.nil;refine ⟨[.ptr 2 0 0 0], [(2, .box [.own 39] 59), (39, .row intE ((perfL m).take (j + 1)) 3 1)], yn, rfl, trivial⟩
 apply yb;refine yg ?_;refine X.ret ?_;refine RetQ.imp (Imp.freeze (k := 39) rfl) ?_;refine yh ?_;all_goals (first | exact congrArg ym htl | rfl)
theorem zcY (m : Mn) : Fn Tryz.prog 132 [.fn 135 [.ept (fun _ : Unit => mnE m) () 0]] (ym (perfL m)) := by
 refine Fn.go Tryz.func132 Tryz.ntmps132 (fun g w d => ?_);apply yb;refine ya ?_;apply yi;refine ya ?_;refine yj (zbE m) ?_;refine ye ?_;refine X.ret ?_;refine yh ?_;all_goals (first | rfl | (simp_all; done))
theorem zdQ (m : Mn) : Fn Tryz.prog 96 [mnA m] (.tup [ym (if ckM m = 0 then perfL m else []), iv (ckM m)]) := by
 refine Fn.go Tryz.func96 Tryz.ntmps96 (fun g w d => ?_);apply yb;refine yF ?_;refine yg ?_;apply yd;apply yb;refine ya ?_;refine yj (zaq m) ?_;refine ya ?_;apply yi;refine yg ?_;refine yl rfl ?_ ?_<;>intro hc1
 ·apply yb;refine yo ?_;refine X.ret ?_;refine RetQ.imp (yn (ts := [(2, ym []), (3, iv (ckM m))]) (hs := [])) ?_;refine yw ?_ ?_;all_goals (first | (rw [if_neg hc1]; done) | rfl)
 apply yf;apply yb;refine ya ?_;refine yj (zc2 m) ?_;refine yj (zcY m) ?_;refine yg ?_;refine X.ret ?_;refine yw ?_ ?_;all_goals (first | (rw [if_pos hc1]; done) | exact congrArg (AV.int .i64) hc1.symm)
end Go.Rse
namespace Go.Rse
open Go Go.Proofs
attribute [local irreducible] Pur yC yE Ex X Fn Imp LeV LeB FnO It yJ
structure Sp where
 Value : Int
 Rest : Bool
 Color : Bool
 Dot : Bool
 Way : Int
 deriving DecidableEq
def spE : Sp -> List AV := fun s => [iv s.Value, .bool s.Rest, .bool s.Color, .bool s.Dot, iv s.Way]
abbrev spA (s : Sp) : AV := .agg (spE s)
abbrev spsA (l : List Sp) : AV := .sl spE l
def spOf (v w : Int) : Sp := ⟨v, decide (w = 8), decide (w = 5) || decide (w = 6) || decide (w = 7), decide (w = 2) || decide (w = 6), w⟩
theorem znR (m : Mn) {v : Int} (h1 : 1 <= v) (n : Nat) : (wdL m v n).length <= 81 := by
 have h3 := zdt m v (5 - v).toNat v (zd m v) false;have h4 : 3 ^ (5 - v).toNat <= 3 ^ 4 := Nat.pow_le_pow_right (by decide) (by omega);have h5 : 3 ^ 4 = 81 := rfl;unfold wdL
 repeat' split
 all_goals first | (simp; done) | omega
def alI (m : Mn) (t : Tm) (v : Int) : Nat -> List Sp
 | 0 => []
 | n + 1 => if n ≠ 0 /\ t ∈ wdL m v n then alI m t v n ++ [spOf v (n : Int)] else alI m t v n
def alO (m : Mn) (t : Tm) : Nat -> List Sp
 | 0 => []
 | k + 1 => alO m t k ++ alI m t (1 + (k : Int)) 9
theorem zh5 (m : Mn) (t : Tm) (v : Int) : ∀ n, (alI m t v n).length <= n
 | 0 => Nat.le_refl _
 | n + 1 => by
  have := zh5 m t v n;unfold alI; split
  ·simp; omega
  ·omega
theorem zh6 (m : Mn) (t : Tm) : ∀ k, (alO m t k).length <= 9 * k
 | 0 => Nat.le_refl _
 | k + 1 => by
  have h1 := zh6 m t k;have h2 := zh5 m t (1 + (k : Int)) 9;unfold alO; simp; omega
theorem znS {m : Mn} {t : Tm} {v : Int} {n : Nat} (hn : n ≠ 0) (h : t ∈ wdL m v n) (X : List Sp) : X ++ alI m t v n ++ [spOf v (n : Int)] = X ++ alI m t v (n + 1) := by
 conv => rhs; unfold alI
 rw [if_pos ⟨hn, h⟩, List.append_assoc]
theorem zmn {m : Mn} {t : Tm} {v : Int} {n : Nat} (h : n = 0 \/ ¬ t ∈ wdL m v n) (X : List Sp) : X ++ alI m t v n = X ++ alI m t v (n + 1) := by
 conv => rhs; unfold alI
 rw [if_neg (fun e => by rcases h with h | h; exact e.1 h; exact h e.2)]
def allE (m : Mn) (t : Tm) : List Sp := if bthE m t = 0 then alO m t 8 else []
theorem fnT : fnTy Tryz.prog 168 := ⟨_, _, _, Tryz.underlying168⟩
theorem znT (j : Nat) (hj : j < 9) : (j = 0 /\ (zpm.drop ((j : Int).toNat * 4)).take 4 = [.bool false, .bool false, .bool false, .nilf]) ∨
 (j ≠ 0 /\ ∃ f, (zpm.drop ((j : Int).toNat * 4)).take 4 = [.bool (decide ((j : Int) = 8)), .bool (decide ((j : Int) = 5) || decide ((j : Int) = 6) || decide ((j : Int) = 7)), .bool (decide ((j : Int) = 2) || decide ((j : Int) = 6)), .fn f []] ∧
  ∀ (m : Mn) (v : Int), ckM m = 0 -> 1 <= v -> v <= 8 -> Fn Tryz.prog f [mnA m, iv v] (tmsA (wdL m v j))) := by
 rcases j with _ | _ | _ | _ | _ | _ | _ | _ | _ | j
 ·exact .inl ⟨rfl, rfl⟩
 ·exact .inr ⟨by decide, _, rfl, fun m v a b c => zgf m v a b c⟩
 ·exact .inr ⟨by decide, _, rfl, fun m v a b c => zgg m v a b c⟩
 ·exact .inr ⟨by decide, _, rfl, fun m v a b c => zie m v a b c⟩
 ·exact .inr ⟨by decide, _, rfl, fun m v a b c => zgh m v a b c⟩
 ·exact .inr ⟨by decide, _, rfl, fun m v a b c => zgi m v a b c⟩
 ·exact .inr ⟨by decide, _, rfl, fun m v a b c => zgj m v a b c⟩
 ·exact .inr ⟨by decide, _, rfl, fun m v a b c => zgk m v a b c⟩
 ·exact .inr ⟨by decide, _, rfl, fun m v a b c => zgl m v a b c⟩
 ·omega
attribute [local irreducible] zd durT mulV wdL alI alO bthE tfx
set_option maxHeartbeats 4000000 in
theorem ziS (m : Mn) (t : Tm) : Fn Tryz.prog 79 [mnA m, tmA t] (.tup [spsA (allE m t), iv (bthE m t)]) := by
 refine Fn.go Tryz.func79 Tryz.ntmps79 (fun g w d => ?_);apply yb;iterate 2 refine yF ?_
 refine yg ?_;apply yd;apply yb;iterate 2 refine ya ?_
 refine yj (zic m t) ?_;refine ya ?_;apply yi;refine yg ?_;refine yl rfl ?_ ?_<;>intro hc1
 ·have hV : [] = allE m t := by unfold allE; rw [if_neg hc1]
  apply yb;refine yo ?_;refine X.ret ?_;refine RetQ.imp (yn (ts := [(4, spsA []), (5, iv (bthE m t))]) (hs := [])) ?_;refine yw ?_ ?_;all_goals (first | exact congrArg spsA hV | rfl | exact congrArg (AV.int .i64) hc1.symm)
 apply yf;apply yb;refine ye ?_;iterate 2 apply yd
 refine X.imp (ze spE 130 5 7 7 rfl rfl) ?_;apply yc;refine ye ?_;apply X.block;have hq0 : [] = alO m t 0 := by unfold alO; rfl
 have hck := zqn hc1
 refine zl (ι := Nat) (fun (k : Nat) => [(2, .ptr 2 0 0 0), (3, .ptr 3 0 0 0), (7, .own 7), (8, iv (1 + (k : Int)))]) (fun (k : Nat) => [(2, .box (mnE m) 32), (3, .box (tmE t) 25), (7, .row spE (alO m t k) 130 5)]) (fun (k : Nat) => k <= 8) (fun (k : Nat) => 8 - k) 0 (fun k hk => ?_) (h0 := by
  exact yq)
 apply yd;apply yb;refine yg ?_;refine yl rfl ?_ ?_<;>intro hc2
 ·apply yf;apply yd;apply X.block;apply yb;refine yj zif ?_;refine ye ?_;apply X.block;have hq1 : alO m t k = alO m t k ++ alI m t (1 + (k : Int)) 0 := by unfold alI; simp
  have hol := zh6 m t k
  refine zl (ι := Nat) (fun (j : Nat) => [(2, .ptr 2 0 0 0), (3, .ptr 3 0 0 0), (7, .own 7), (8, iv (1 + (k : Int))), (21, .agg zpm), (22, iv (j : Int))]) (fun (j : Nat) => [(2, .box (mnE m) 32), (3, .box (tmE t) 25), (7, .row spE (alO m t k ++ alI m t (1 + (k : Int)) j) 130 5)]) (fun (j : Nat) => j <= 9) (fun (j : Nat) => 9 - j) 0 (fun j hk => ?_) (h0 := by
   exact yq)
  apply yb;refine ye ?_;apply yd;refine yl rfl ?_ ?_<;>intro hc3
  ·have hil := zh5 m t (1 + (k : Int)) j;apply yf;apply yd;apply X.block;apply yd;rcases znT j (by omega) with ⟨hj0, hpart⟩ | ⟨hj0, fw, hpart, hF⟩
   ·apply yc;refine ya ?_;refine ya (hs := zC ArK.h TyK.h rfl rfl (by omega) (by omega) hpart) ?_;refine yD ?_;refine ya ?_;refine Ex.mo ?_;apply Ex.nil;apply yd;refine zz [26,27,28,29,30,31,32,33,34,35,36,37] [0,1,3,7,15,31,15,15,255,15,1023,2047] mo ?_;(iterate 2 refine yk ?_);refine ChM.step rfl rfl rfl (Pur.stepA (zj0 fnT rfl rfl)) rfl ?_;refine yk ?_;(iterate 6 refine ChM.gn (.any) ?_);refine ChM.gn (.bool false) ?_;refine yk ?_;refine yX ?_;apply Ex.nil;refine yl rfl ?_ ?_<;>intro hc4
    ·simp at hc4
    have hst := zmn (m := m) (t := t) (v := 1 + (k : Int)) (n := j) (.inl hj0) (alO m t k);apply yf;apply yc;refine yg ?_;refine yM (j + 1) (hI := yq)
   ·apply yc;refine ya ?_;refine ya (hs := zC ArK.h TyK.h rfl rfl (by omega) (by omega) hpart) ?_;refine yD ?_;refine ya ?_;refine Ex.mo ?_;apply Ex.nil;apply yd;refine zz [26,27,28,29,30,31,32,33,34,35,36,37] [0,1,3,7,15,31,15,15,255,15,1023,2047] mo ?_;(iterate 2 refine yk ?_);refine ChM.step rfl rfl rfl (Pur.stepA (zm3 fnT rfl rfl)) rfl ?_;refine yk ?_;(iterate 4 refine ChM.gi ?_);refine ChM.cg (hF m (1 + (k : Int)) hck.1 (by omega) (by omega)) ?_;refine ChM.gi ?_;refine ChM.cg (zp (wdL m (1 + (k : Int)) j) t (by have := znR m (show 1 <= 1 + (k : Int) by omega) j; omega)) ?_;refine yk ?_;refine yX ?_;apply Ex.nil;refine yl rfl ?_ ?_<;>intro hc5
    ·have hst := znS (v := 1 + (k : Int)) hj0 hc5.2 (alO m t k);apply yc;(iterate 10 refine ya ?_);refine yW spE [spOf (1 + (k : Int)) (j : Int)] ?_;refine Ex.mo ?_;refine ye ?_;apply yc;refine yg ?_;refine yM (j + 1) (hI := yq)
    ·have hst := zmn (m := m) (t := t) (v := 1 + (k : Int)) (n := j) (.inr (by rcases hc5 with h | h; exact absurd h (by decide); exact h)) (alO m t k);apply yf;apply yc;refine yg ?_;refine yM (j + 1) (hI := yq)
  ·have hj9 : j = 9 := by omega
   subst hj9;have hst : alO m t k ++ alI m t (1 + (k : Int)) 9 = alO m t (k + 1) := by conv => rhs; unfold alO
   apply X.exit;apply yc;refine yo ?_;refine yM (k + 1) (hI := yq)
 ·have hk8 : k = 8 := by omega
  subst hk8;have hV : alO m t 8 = allE m t := by unfold allE; rw [if_pos hc1]
  apply X.exit;apply yb;refine yo ?_;refine X.ret ?_;refine RetQ.imp (Imp.freeze (k := 7) rfl) ?_;refine yw ?_ ?_;all_goals (first | exact congrArg spsA hV | rfl | exact congrArg (AV.int .i64) hc1.symm)
end Go.Rse
namespace Go.Rse
open Go Go.Proofs
structure Bt where
 Dur : Tm
 Rest : Bool
 deriving DecidableEq
def btE : Bt -> List AV := fun b => [iv b.Dur.N, iv b.Dur.D, .bool b.Rest]
abbrev btA (b : Bt) : AV := .agg (btE b)
abbrev btsA (l : List Bt) : AV := .sl btE l
theorem zkn (a b : Bt) : eqL (btE a) (btE b) = some (decide (a = b)) := by
 obtain ⟨⟨a1, a2⟩, a3⟩ := a;obtain ⟨⟨b1, b2⟩, b3⟩ := b;refine (zb rfl (zb rfl (zb rfl rfl))).trans ?_;simp only [Bt.mk.injEq, Tm.mk.injEq, Bool.decide_and, Bool.and_assoc, Bool.and_true, Bool.beq_eq_decide_eq]
structure Hb where
 Color : Bool
 Dots : Bool
 Alter : Bool
 deriving DecidableEq
def hbE : Hb -> List AV := fun h => [.bool h.Color, .bool h.Dots, .bool h.Alter]
abbrev hbA (h : Hb) : AV := .agg (hbE h)
def sgsE : List Sg -> List AV := fun l => [sgsA l]
abbrev z8 (L : List (List Sg)) : AV := .sl sgsE L
def zko : List (List Sg) -> List AV := fun l => [z8 l]
abbrev chsA (L : List (List (List Sg))) : AV := .sl zko L
structure Fo where
 v : Int
 c : Bool
 d : Bool
 deriving DecidableEq
instance : Inhabited Fo := ⟨⟨0, false, false⟩⟩
def foE : Fo -> List AV := fun f => [iv f.v, .bool f.c, .bool f.d]
abbrev foA (f : Fo) : AV := .agg (foE f)
theorem znU (a b : Fo) : eqL (foE a) (foE b) = some (decide (a = b)) := by
 cases a; cases b;refine (zb rfl (zb rfl (zb rfl rfl))).trans ?_;simp only [Fo.mk.injEq, Bool.decide_and, Bool.and_assoc, Bool.and_true, Bool.beq_eq_decide_eq]
def b2i (b : Bool) : Int := if b then 1 else 0
def foN (f : Fo) : Int := 4 * f.v + 2 * b2i f.c + b2i f.d
theorem zaf (b : Bool) : 0 <= b2i b /\ b2i b <= 1 := by cases b <;> decide
theorem zkp {a b : Bool} (h : b2i a = b2i b) : a = b := by cases a <;> cases b <;> simp_all [b2i]
theorem zkq {f g : Fo} (h : foN f = foN g) : f = g := by
 have h1 := zaf f.c;have h2 := zaf f.d;have h3 := zaf g.c;have h4 := zaf g.d;unfold foN at h;have e1 : f.v = g.v := by omega
 have e2 : b2i f.c = b2i g.c := by omega
 have e3 : b2i f.d = b2i g.d := by omega
 cases f; cases g;simp at e1 e2 e3;subst e1;rw [zkp e2, zkp e3]
def btC (b : Bt) : Int := if ckT b.Dur = 0 then (if b.Dur.N = 0 then 2 else 0) else ckT b.Dur
def btF : List Bt -> Int
 | [] => 0
 | b :: r => if btC b = 0 then btF r else btC b
def wcE (m : Mn) (l : List Bt) : Int := if ckM m = 0 then btF l else ckM m
theorem zjD {l : List Bt} {i : Nat} {b : Bt} (hi : l[i]? = some b) (h : btF (l.take i) = 0) : btF (l.take (i + 1)) = btC b := by
 have key : ∀ (l r : List Bt), btF l = 0 -> btF (l ++ r) = btF r := by
  intro l r
  induction l with
  | nil => intro _; rfl
  | cons x l ih =>
   intro hx;unfold btF at hx;split at hx
   ·rename_i h0; show (if btC x = 0 then btF (l ++ r) else btC x) = _; rw [if_pos h0]; exact ih hx
   ·exact absurd hx ‹_›
 rw [List.take_add_one, hi, key _ _ h];show (if btC b = 0 then 0 else btC b) = btC b;split
 ·rename_i h0; exact h0.symm
 ·rfl
theorem ziT {l : List Bt} {i : Nat} (h : ¬ btF (l.take i) = 0) : btF l = btF (l.take i) := by
 have key : ∀ (l r : List Bt), ¬ btF l = 0 -> btF (l ++ r) = btF l := by
  intro l r
  induction l with
  | nil => intro h; exact absurd rfl h
  | cons x l ih =>
   intro hx;unfold btF at hx;split at hx
   ·rename_i h0;show (if btC x = 0 then btF (l ++ r) else btC x) = (if btC x = 0 then btF l else btC x);rw [if_pos h0, if_pos h0]; exact ih hx
   ·rename_i h0;show (if btC x = 0 then btF (l ++ r) else btC x) = (if btC x = 0 then btF l else btC x);rw [if_neg h0, if_neg h0]
 conv => lhs; rw [← List.take_append_drop i l]
 exact key _ _ h
def usQ (s : Sp) (h : Hb) : Bool := if s.Way = 5 \/ s.Way = 7 then h.Color else if s.Way = 6 then h.Color && h.Dots else if s.Way = 2 then h.Dots else if s.Way = 4 then h.Alter else true
def slQ (b : Bt) (h : Hb) (s : Sp) : Bool := decide (s.Rest = b.Rest) && usQ s h
def fkS (b : Bt) (h : Hb) (s : Sp) : List Fo := if slQ b h s then (if s.Dot then [] else [⟨s.Value, s.Color, false⟩]) ++ (if h.Dots then [⟨s.Value, s.Color, true⟩] else []) else []
def fkL (b : Bt) (h : Hb) (L : List Sp) : List Fo := L.flatMap (fkS b h)
def foS (r : Bool) (f : Fo) : List Sg :=
 let s : Sg := if r then ⟨2, f.v, 0, 0, false, 0, false, false, ⟨0, 0, 0, 0⟩, false, 0, 0, 0, 0⟩ else ⟨1, f.v, 4, 0, f.c, 0, false, false, ⟨0, 0, 0, 0⟩, false, 0, 0, 0, 0⟩
 if f.d then [s, ⟨3, 0, 0, 0, false, 0, false, false, ⟨0, 0, 0, 0⟩, false, 0, 0, 0, 0⟩] else [s]
def rkC (b : Bt) (h : Hb) (L : List Sp) (v : Int) (c : Bool) : List Fo :=
 (if L.any (fun s => slQ b h s && decide (s.Value = v) && decide (s.Color = c) && !s.Dot) then [⟨v, c, false⟩] else []) ++
 (if L.any (fun s => slQ b h s && decide (s.Value = v) && decide (s.Color = c)) && h.Dots then [⟨v, c, true⟩] else [])
def rkV (b : Bt) (h : Hb) (L : List Sp) (v : Int) : List Fo := rkC b h L v false ++ rkC b h L v true
def rkL (b : Bt) (h : Hb) (L : List Sp) : Nat -> List Fo
 | 0 => []
 | n + 1 => rkL b h L n ++ rkV b h L (1 + (n : Int))
theorem zfE {b : Bt} {h : Hb} {L : List Sp} {v : Int} {c : Bool} {f : Fo} : f ∈ rkC b h L v c ↔ f.v = v /\ f.c = c /\ f ∈ fkL b h L := by
 unfold rkC fkL;rw [List.mem_append, List.mem_flatMap];constructor
 ·rintro (hf | hf)
  ·split at hf
   ·rename_i ha;rw [List.mem_singleton] at hf; subst hf;rw [List.any_eq_true] at ha;obtain ⟨s, hs, h1⟩ := ha;simp only [Bool.and_eq_true, decide_eq_true_eq, Bool.not_eq_true'] at h1;obtain ⟨⟨⟨h1, h2⟩, h3⟩, h4⟩ := h1;refine ⟨rfl, rfl, s, hs, ?_⟩;unfold fkS; rw [if_pos h1, h4, h2, h3]; simp
   ·simp at hf
  ·split at hf
   ·rename_i ha;rw [List.mem_singleton] at hf; subst hf;rw [Bool.and_eq_true, List.any_eq_true] at ha;obtain ⟨⟨s, hs, h1⟩, hd⟩ := ha;simp only [Bool.and_eq_true, decide_eq_true_eq] at h1;obtain ⟨⟨h1, h2⟩, h3⟩ := h1;refine ⟨rfl, rfl, s, hs, ?_⟩;unfold fkS; rw [if_pos h1, h2, h3, hd]; simp
   ·simp at hf
 ·rintro ⟨rfl, rfl, s, hs, hf⟩
  unfold fkS at hf;split at hf
  ·rename_i h1;rw [List.mem_append] at hf;rcases hf with hf | hf
   ·split at hf
    ·simp at hf
    ·rename_i hd;rw [List.mem_singleton] at hf; subst hf;refine .inl ?_;rw [if_pos (List.any_eq_true.2 ⟨s, hs, by simp [h1]; simpa using hd⟩)]; simp
   ·split at hf
    ·rename_i hd;rw [List.mem_singleton] at hf; subst hf;refine .inr ?_;rw [if_pos (by rw [Bool.and_eq_true]; exact ⟨List.any_eq_true.2 ⟨s, hs, by simp [h1]⟩, hd⟩)]; simp
    ·simp at hf
  ·simp at hf
theorem zkr {b : Bt} {h : Hb} {L : List Sp} {v : Int} {f : Fo} : f ∈ rkV b h L v ↔ f.v = v /\ f ∈ fkL b h L := by
 unfold rkV;rw [List.mem_append, zfE, zfE];cases hc : f.c <;> simp
theorem zh7 {b : Bt} {h : Hb} {L : List Sp} {f : Fo} : ∀ n, f ∈ rkL b h L n ↔ (1 <= f.v /\ f.v <= (n : Int)) /\ f ∈ fkL b h L
 | 0 => by
  simp [rkL]; intro h1 h2; omega
 | n + 1 => by
  unfold rkL;rw [List.mem_append, zh7 n, zkr];constructor
  ·rintro (⟨⟨h1, h2⟩, h3⟩ | ⟨h1, h2⟩)
   ·exact ⟨⟨h1, by omega⟩, h3⟩
   ·exact ⟨by omega, h2⟩
  ·rintro ⟨⟨h1, h2⟩, h3⟩
   by_cases e : f.v = 1 + (n : Int)
   ·exact .inr ⟨e, h3⟩
   ·exact .inl ⟨⟨h1, by omega⟩, h3⟩
def foL (f g : Fo) : Prop := foN f < foN g
theorem zmo (b : Bt) (h : Hb) (L : List Sp) (v : Int) (c : Bool) : (rkC b h L v c).Pairwise foL := by
 unfold rkC;rw [List.pairwise_append];refine ⟨by split <;> simp, by split <;> simp, fun x hx y hy => ?_⟩;split at hx
 ·split at hy
  ·rw [List.mem_singleton] at hx hy; subst hx; subst hy;unfold foL foN; simp [b2i]; omega
  ·simp at hy
 ·simp at hx
theorem zqi (b : Bt) (h : Hb) (L : List Sp) (v : Int) : (rkV b h L v).Pairwise foL := by
 unfold rkV;rw [List.pairwise_append];refine ⟨zmo b h L v _, zmo b h L v _, fun x hx y hy => ?_⟩;obtain ⟨x1, x2, -⟩ := zfE.1 hx;obtain ⟨y1, y2, -⟩ := zfE.1 hy;have h1 := zaf x.d;have h2 := zaf y.d;unfold foL foN; rw [x1, x2, y1, y2]; simp [b2i] at *; omega
theorem zmp (b : Bt) (h : Hb) (L : List Sp) : ∀ n, (rkL b h L n).Pairwise foL
 | 0 => by simp [rkL]
 | n + 1 => by
  unfold rkL;rw [List.pairwise_append];refine ⟨zmp b h L n, zqi b h L _, fun x hx y hy => ?_⟩;have hx := ((zh7 n).1 hx).1;have hy := (zkr.1 hy).1;have h1 := zaf x.c;have h2 := zaf y.c;have h3 := zaf x.d;have h4 := zaf y.d;unfold foL foN; omega
def frL (m : Mn) (b : Bt) (h : Hb) : List Fo := rkL b h (allE m b.Dur) 8
def frV (m : Mn) (b : Bt) (h : Hb) : List (List Sg) := (frL m b h).map (foS b.Rest)
theorem zmq {m : Mn} {t : Tm} {v : Int} : ∀ n, ∀ s ∈ alI m t v n, ∃ w : Nat, 1 <= w /\ w < n /\ s = spOf v (w : Int)
 | 0, s, h => by simp [alI] at h
 | n + 1, s, h => by
  unfold alI at h;split at h
  ·rename_i hn;rcases List.mem_append.1 h with h | h
   ·obtain ⟨w, h1, h2, h3⟩ := zmq n s h; exact ⟨w, h1, by omega, h3⟩
   ·rw [List.mem_singleton] at h; exact ⟨n, by omega, by omega, h⟩
  ·obtain ⟨w, h1, h2, h3⟩ := zmq n s h; exact ⟨w, h1, by omega, h3⟩
theorem zpk {m : Mn} {t : Tm} : ∀ n, ∀ s ∈ alO m t n, ∃ v w : Nat, 1 <= v /\ v <= n /\ 1 <= w /\ w < 9 /\ s = spOf (v : Int) (w : Int)
 | 0, s, h => by simp [alO] at h
 | n + 1, s, h => by
  unfold alO at h;rcases List.mem_append.1 h with h | h
  ·obtain ⟨v, w, h1, h2, h3⟩ := zpk n s h; exact ⟨v, w, h1, by omega, h3⟩
  ·obtain ⟨w, h1, h2, h3⟩ := zmq 9 s h;exact ⟨1 + n, w, by omega, by omega, h1, h2, by rw [h3]; congr 1⟩
theorem zqj {m : Mn} {t : Tm} {s : Sp} (h : s ∈ allE m t) : ∃ v w : Nat, 1 <= v /\ v <= 8 /\ 1 <= w /\ w < 9 /\ s = spOf (v : Int) (w : Int) := by
 unfold allE at h;split at h
 ·exact zpk 8 s h
 ·simp at h
theorem zrV {m : Mn} {b : Bt} {h : Hb} {f : Fo} : f ∈ frL m b h ↔ f ∈ fkL b h (allE m b.Dur) := by
 unfold frL;rw [zh7];refine ⟨fun h => h.2, fun hf => ⟨?_, hf⟩⟩;unfold fkL at hf;obtain ⟨s, hs, hf⟩ := List.mem_flatMap.1 hf;obtain ⟨v, w, h1, h2, -, -, rfl⟩ := zqj hs;unfold fkS at hf
 have : f.v = (v : Int) := by
  split at hf
  ·rcases List.mem_append.1 hf with hf | hf
   ·split at hf
    ·simp at hf
    ·rw [List.mem_singleton] at hf; rw [hf]; rfl
   ·split at hf
    ·rw [List.mem_singleton] at hf; rw [hf]; rfl
    ·simp at hf
  ·simp at hf
 constructor <;> simp [this] <;> omega
theorem zln {l : List Fo} {m : Mn} {b : Bt} {h : Hb} (hp : l.Pairwise foL) (hm : ∀ f, f ∈ l ↔ f ∈ fkL b h (allE m b.Dur)) : l = frL m b h := by
 have nd : ∀ {L : List Fo}, L.Pairwise foL -> L.Nodup := fun hp => List.Pairwise.imp (fun {a b} hab e => by subst e; unfold foL at hab; omega) hp
 have hq : (frL m b h).Pairwise foL := zmp _ _ _ _;refine List.Perm.eq_of_pairwise (le := foL) (fun a b _ _ h3 h4 => absurd h4 (by unfold foL at *; omega)) hp hq ((List.perm_ext_iff_of_nodup (nd hp) (nd hq)).2 fun x => by rw [hm x, zrV])
theorem zks (m : Mn) (b : Bt) (h : Hb) : (frL m b h).length <= 32 := by
 have key : ∀ n, (rkL b h (allE m b.Dur) n).length <= 4 * n := by
  intro n
  induction n with
  | zero => simp [rkL]
  | succ n ih =>
   have hC : ∀ c, (rkC b h (allE m b.Dur) (1 + (n : Int)) c).length <= 2 := fun c => by
    unfold rkC; rw [List.length_append];split <;> split <;> simp
   have h1 := hC false;have h2 := hC true;unfold rkL rkV;simp only [List.length_append]; omega
 exact key 8
theorem zh8 (m : Mn) (b : Bt) (h : Hb) : (frV m b h).length <= 32 := by
 unfold frV; rw [List.length_map]; exact zks m b h
end Go.Rse
