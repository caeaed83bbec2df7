/-
  Walks: the positions of pairs.
  Walks: the list of pairs.
  Walks: the plain rule, the count.
  Walks: Rule, Count, Of.
  Walks: Of.
-/
import Derived.Test.YtfiiobachmglpaaGreatDoorFColA
import Derived.Test.YtfiiobachmglpaaGreatDoorFRefA
import Derived.Test.YtfiiobachmglpaaGreatDoorFLogC
set_option linter.unusedSimpArgs false
set_option linter.unusedVariables false
namespace Go.Rse
open Go Go.Proofs
attribute [local irreducible] Pur yK yM Ex X Fn Imp LeV LeB FnO It yW
def z6 (m : Mn) (l : List Sg) (i : Int) : Bool := decide (m.Pro = 2) && zai l i
def zG (m : Mn) (l : List Sg) : Nat -> List Int
 | 0 => []
 | k + 1 => if z6 m l (k : Int) = true then zG m l k ++ [(k : Int)] else zG m l k
def zN (m : Mn) (l : List Sg) : List Int := zG m l l.length
def zgd (m : Mn) (l : List Sg) : List (List AV) := (zN m l).map fun i => [iv i]
theorem zef {m : Mn} {l : List Sg} {k : Nat} (h : z6 m l (k : Int) = true) : zG m l k ++ [(k : Int)] = zG m l (k + 1) := by
 conv => rhs; unfold zG
 rw [if_pos h]
theorem zfc {m : Mn} {l : List Sg} {k : Nat} (h : z6 m l (k : Int) = false) : zG m l k = zG m l (k + 1) := by
 conv => rhs; unfold zG
 rw [if_neg (by simp [h])]
theorem zfS (m : Mn) (l : List Sg) : ∀ k, (zG m l k).length <= k
 | 0 => Nat.le_refl _
 | k + 1 => by
  unfold zG;have := zfS m l k;split
  ·simp; omega
  ·omega
theorem zh0 {m : Mn} {l : List Sg} (k : Nat) : ∀ d, ∃ r, zG m l (k + d) = zG m l k ++ r
 | 0 => ⟨[], by simp⟩
 | d + 1 => by
  obtain ⟨r, hr⟩ := zh0 (m := m) (l := l) k d;show ∃ r, zG m l ((k + d) + 1) = _;by_cases h : z6 m l ((k + d : Nat) : Int) = true
  ·rw [← zef h, hr]; exact ⟨r ++ [((k + d : Nat) : Int)], by simp⟩
  ·rw [← zfc (by simpa using h)]; exact ⟨r, hr⟩
theorem zl4 {m : Mn} {l : List Sg} {k : Nat} (hk : k < l.length) (h : z6 m l (k : Int) = true) : (zgd m l)[(zG m l k).length]? = some [iv (k : Int)] := by
 obtain ⟨r, hr⟩ := zh0 (m := m) (l := l) (k + 1) (l.length - (k + 1));rw [show k + 1 + (l.length - (k + 1)) = l.length by omega, ← zef h] at hr;unfold zgd zN;rw [hr]; simp
theorem zfT {m : Mn} {l : List Sg} {j : Nat} {zs : List AV} (h : (zgd m l)[j]? = some zs) : ∃ i, (zN m l)[j]? = some i /\ zs = [iv i] := by
 rw [zgd, List.getElem?_map] at h;cases hk : (zN m l)[j]? with
 | none => simp [hk] at h
 | some k => simp [hk] at h; exact ⟨k, rfl, h.symm⟩
attribute [local irreducible] zai zG zN
theorem zgq (m : Mn) (l : List Sg) (hl : l.length <= 4000000000) : It Tryz.prog 169 [.ept (fun _ : Unit => [.sl sgE l]) () 0, .ept (fun _ : Unit => mnE m) () 0] (zgd m l) := by
 have hp0 : (zG m l 0).length = 0 := by unfold zG; rfl
 refine It.intro (ts := fun lY => [(0, .yv lY), (1, .ept (fun _ : Unit => [.sl sgE l]) () 0), (2, .ept (fun _ : Unit => mnE m) () 0)]) (n := 25) (by kernel_rfl) Tryz.func169 rfl Tryz.ntmps169 rfl (fun _ => rfl) (by simp) (fun g w d ds Y lY hY => ?_);apply yb;refine yp ?_;apply X.block;refine y9 (ι := Nat) (fun (k : Nat) => [(0, .yv lY), (1, .ept (fun _ : Unit => [.sl sgE l]) () 0), (2, .ept (fun _ : Unit => mnE m) () 0), (6, iv l.length), (7, iv (k : Int))]) (fun (k : Nat) => [(1000000, .yld (zG m l k).length true)]) (fun (k : Nat) => k <= l.length) (fun (k : Nat) => l.length - k) 0 (fun k hk => ?_);apply yb;refine ye ?_;apply yd;refine yk rfl ?_ ?_<;>intro hc1
 ·apply yf;apply yd;apply X.block;apply yb;refine yh ?_;apply yd;have hcs : (decide (m.Pro = 2) = false) \/ (decide (m.Pro = 2) = true /\ zai l (k : Int) = false) \/ (decide (m.Pro = 2) = true /\ zai l (k : Int) = true) := by cases decide (m.Pro = 2) <;> cases zai l (k : Int) <;> simp
  rcases hcs with hp | ⟨hp, hq⟩ | ⟨hp, hq⟩
  ·have hg3 : (decide (m.Pro = 2) == true) = false := by rw [hp]; rfl
   have hn : z6 m l (k : Int) = false := by unfold z6; rw [hp]; rfl
   have hst := zfc hn;have hst2 := congrArg List.length hst.symm;apply yc;(iterate 4 refine ya ?_);(iterate 3 refine zbl ?_);(iterate 2 refine ya ?_);(iterate 4 refine zbl ?_);refine ye ?_;refine yk rfl ?_ ?_<;>intro hc2
   ·exact absurd hc2 (by decide)
   apply yf;apply yc;refine yh ?_;refine yL (k + 1)
  ·have hg3 : (decide (m.Pro = 2) == true) = true := by rw [hp]; rfl
   have hg8 : (zai l (k : Int) == true) = false := by rw [hq]; rfl
   have hn : z6 m l (k : Int) = false := by unfold z6; rw [hp, hq]; rfl
   have hst := zfc hn;have hst2 := congrArg List.length hst.symm;apply yc;(iterate 4 refine ya ?_);iterate 2 refine zS ?_
   (refine zm6 rfl rfl ?_ (zax rfl rfl rfl (LeL.refl _) (zfb l hl (k : Int) (by omega) (by omega))) rfl rfl ?_; iterate 1 (· first | exact hg3 | assumption | rfl | (simp_all; done) | omega))
   (iterate 2 refine ya ?_);(iterate 4 refine zbl ?_);refine ye ?_;refine yk rfl ?_ ?_<;>intro hc3
   ·exact absurd hc3 (by decide)
   apply yf;apply yc;refine yh ?_;refine yL (k + 1)
  ·have hg3 : (decide (m.Pro = 2) == true) = true := by rw [hp]; rfl
   have hg8 : (zai l (k : Int) == true) = true := by rw [hq]; rfl
   have hn : z6 m l (k : Int) = true := by unfold z6; rw [hp, hq]; rfl
   have hst := zef hn;have hst2 := congrArg List.length hst;have hq1 := zl4 (by omega) hn;rw [List.length_append] at hst2;apply yc;(iterate 4 refine ya ?_);iterate 2 refine zS ?_
   (refine zm6 rfl rfl ?_ (zax rfl rfl rfl (LeL.refl _) (zfb l hl (k : Int) (by omega) (by omega))) rfl rfl ?_; iterate 1 (· first | exact hg3 | assumption | rfl | (simp_all; done) | omega))
   (iterate 2 refine ya ?_);(iterate 2 refine zS ?_);refine zbV hY rfl rfl rfl (fun _ => ⟨_, _, rfl, rfl, rfl, LeL.refl _, rfl, rfl, hq1, fun b => ?_⟩) (fun h => absurd (h.symm.trans hg8) (by decide));refine zS ?_;refine ye ?_;refine yk rfl ?_ ?_<;>intro hc4
   ·subst hc4;refine X.ret ?_;refine ⟨.inr rfl, _, false, rfl, fun hb => by simp at hb⟩
   subst hc4;have hst3 : (zG m l (k + 1)).length = (zG m l k).length + 1 := hst2.symm;clear hst2;apply yf;apply yc;refine yh ?_;refine yL (k + 1)
 ·have hkl : k = l.length := by omega
  subst hkl;apply X.exit;refine ⟨.inl rfl, _, true, rfl, fun _ => by unfold zgd zN; rw [List.length_map]⟩
theorem zhJ (m : Mn) (l : List Sg) : Fn Tryz.prog 96 [mnA m, sgsA l] (.fn 169 [.ept (fun _ : Unit => [.sl sgE l]) () 0, .ept (fun _ : Unit => mnE m) () 0]) := by
 refine Fn.go Tryz.func96 Tryz.ntmps96 (fun g w d => ?_);apply yb;refine yH ?_;refine zeH ?_;refine ya ?_;apply yn;refine yh ?_;refine X.ret ?_;refine yu ((y8 (k := 2) rfl rfl).trans (y8 (k := 3) rfl rfl)) ?_;refine ym ?_;all_goals (first | rfl | (simp_all; done))
end Go.Rse
namespace Go.Rse
open Go Go.Proofs
attribute [local irreducible] Pur yK yM Ex X Fn Imp LeV LeB FnO It yW
theorem zh1 (m : Mn) (l : List Sg) : (zN m l).length <= l.length := by unfold zN; exact zfS m l _
theorem zl5 {α : Type} {a : List α} {j : Nat} {x : α} (h : a[j]? = some x) : a.take j ++ [x] = a.take (j + 1) := by
 rw [List.take_add_one, h]; rfl
theorem zkg {m : Mn} {l : List Sg} {k : Int} (h : m.p 4 = 2 /\ zai l k = true) : z6 m l k = true := by
 have e : m.p 4 = m.Pro := rfl;rw [e] at h; unfold z6; rw [decide_eq_true h.1, h.2]; rfl
theorem zl6 {m : Mn} {l : List Sg} {k : Int} (h : ¬ m.p 4 = 2 \/ zai l k = false) : z6 m l k = false := by
 have e : m.p 4 = m.Pro := rfl;rw [e] at h; unfold z6;rcases h with h | h
 ·rw [decide_eq_false h]; rfl
 ·rw [h]; simp
attribute [local irreducible] zai zG zN z6 ckD
theorem zhK (m : Mn) (z : List Sg) (hl : z.length <= 1000) : FnO Tryz.prog 37 [mnA m, sgsA z] [] [] (.tup [.own 39, iv (ckD m z)]) [(39, .row intE (if ckD m z = 0 then zN m z else []) 3 1)] := by
 refine FnO.intro (ts := [(0, mnA m), (1, sgsA z)]) (rv := [.tmp 4, .tmp 5]) (n := 24) (cs := []) (by kernel_rfl) Tryz.func37 rfl Tryz.ntmps37 rfl rfl (by simp) rfl rfl rfl rfl (fun g w d vh => ?_);apply yb;refine yH ?_;refine yh ?_;apply yd;apply yb;iterate 2 refine ya ?_
 refine yr (zcn m z hl) ?_;refine ya ?_;apply yn;refine yh ?_;refine yk rfl ?_ ?_<;>intro hc1
 ·have hE : [] = (if ckD m z = 0 then zN m z else []) := by rw [if_neg hc1]
  apply yb;refine yp ?_;refine X.ret ?_;refine zf1 (yZ intE 3 1 4 39 rfl rfl) ?_;refine zlm.mk (ts := [(4, .own 39), (5, iv (ckD m z))]) (.inr rfl) (yl) (.many (by decide) (.cons (.tmp rfl (LeV.eq rfl)) (.cons (.tmp rfl (LeV.eq rfl)) .nil)))
 have hpl := zh1 m z;apply yf;apply yb;refine yJ ?_;apply Ex.nil;iterate 2 apply yd
 refine y3 (zb8 intE 3 1 7 39 27 rfl rfl) ?_;apply yc;iterate 2 refine ya ?_
 refine yr (zhJ m z) ?_;apply Ex.nil;apply X.block;have ht0 : [] = (zN m z).take 0 := by simp
 have htl : (zN m z).take (zgd m z).length = (if ckD m z = 0 then zN m z else []) := by
  rw [if_pos hc1]; unfold zgd; rw [List.length_map, List.take_length]
 refine X.range (sl := [7]) (fun j => ([.ptr 7 0 0 0], [(1000001, .hold vh []), (7, .box [.own 39] 27), (39, .row intE ((zN m z).take j) 3 1)])) (fun j => True) 900001 900002 rfl rfl (by decide) (fun j zs hj => by obtain ⟨i, _, rfl⟩ := zfT hj; rfl) (zgq m z (by omega)) trivial rfl rfl (by decide) (Nat.zero_le _) (by simp) (fun j zs hj => by obtain ⟨i, _, rfl⟩ := zfT hj; rfl) (fun _ => rfl) rfl rfl (fun l o us => yl) (trivial) (fun j zs hj hJ l ready busy rb vs g w hb hyB => ?_) (fun hJ => ?_)
 ·obtain ⟨i, hi, rfl⟩ := zfT hj;have hst := zl5 hi;have hlt : ((zN m z).take j).length <= 1000 := by simp; omega
  apply yc;refine ye ?_;refine ⟨rfl, rfl, ?_⟩;apply X.block;apply yc;iterate 2 refine ya ?_
  refine yO intE [_] ?_;iterate 2 refine yi ?_
  apply Ex.nil;refine ⟨[.ptr 7 0 0 0], [(1000001, .hold vh []), (7, .box [.own 39] 27), (39, .row intE ((zN m z).take (j + 1)) 3 1)], yl, rfl, trivial⟩
 apply yb;refine yp ?_;refine X.ret ?_;refine zlm.mk (ts := [(4, .own 39), (5, iv (ckD m z))]) (.inr rfl) (yl) (.many (by decide) (.cons (.tmp rfl (LeV.eq rfl)) (.cons (.tmp rfl (LeV.eq rfl)) .nil)))
theorem zes (m : Mn) (l : List Sg) (hl : l.length <= 1000) : Fn Tryz.prog 220 [mnA m, sgsA l] (.tup [yg (if ckD m l = 0 then zN m l else []), iv (ckD m l)]) := by
 have hq0 : [] = zG m l 0 := by unfold zG; rfl
 have hqL : zG m l l.length = zN m l := by unfold zN; rfl
 refine Fn.go Tryz.func220 Tryz.ntmps220 (fun g w d => ?_);apply yb;refine yH ?_;iterate 2 refine ya ?_
 apply yn;iterate 2 refine ya ?_
 refine yr (zbF m l hl) ?_;refine ye ?_;apply yd;apply yb;refine yh ?_;refine yk rfl ?_ ?_<;>intro hc1
 ·apply yb;refine yp ?_;refine X.ret ?_;refine yu (yl (ts := [(4, yg []), (5, iv (ckD m l))]) (hs := [])) ?_;refine yz ?_ ?_;all_goals (first | (rw [if_neg hc1]; done) | rfl | (rw [if_pos hc1, ← hqL]; rfl) | (rw [if_pos hc1, ← hqL]; done) | (rw [hc1]; done) | (rw [hc1]; rfl))
 apply yf;apply yb;refine ye ?_;iterate 2 apply yd
 refine y3 (yZ intE 3 1 7 7 rfl rfl) ?_;apply yc;refine ye ?_;apply X.block;refine y9 (ι := Nat) (fun (k : Nat) => [(1, sgsA l), (2, .ptr 2 0 0 0), (7, .own 7), (8, iv (k : Int))]) (fun (k : Nat) => [(2, .box (mnE m) 23), (7, .row intE (zG m l k) 3 1)]) (fun (k : Nat) => k <= l.length) (fun (k : Nat) => l.length - k) 0 (fun k hk => ?_);apply yd;apply yb;refine yX ?_;refine yk rfl ?_ ?_<;>intro hc2
 ·have hlen := zfS m l k;apply yf;apply yd;apply X.block;apply yb;iterate 3 refine ya ?_
  refine yr (zeO m l (by omega) (k : Int) (by omega) (by omega)) ?_;apply Ex.nil;refine yk rfl ?_ ?_<;>intro hc3
  ·have hrow := zef (zkg hc3);apply yc;(iterate 2 refine ya ?_);refine yO intE [_] ?_;refine yi ?_;refine ye ?_;apply yc;refine yp ?_;refine yL (k + 1)
  ·have hrow := zfc (zl6 hc3);apply yf;apply yc;refine yp ?_;refine yL (k + 1)
 ·have hkl : k = l.length := by omega
  subst hkl;apply X.exit;apply yb;refine yp ?_;refine X.ret ?_;refine yu (Imp.freeze (k := 7) rfl) ?_;refine yz ?_ ?_;all_goals (first | (rw [if_neg hc1]; done) | rfl | (rw [if_pos hc1, ← hqL]; rfl) | (rw [if_pos hc1, ← hqL]; done) | (rw [hc1]; done) | (rw [hc1]; rfl))
end Go.Rse
namespace Go.Rse
open Go Go.Proofs
attribute [local irreducible] Pur yK yM Ex X Fn Imp LeV LeB FnO It yW
attribute [local irreducible] zai zG zN z6 ckD
def prL (m : Mn) (l : List Sg) : List Int := if ckD m l = 0 then zN m l else []
def twos (n : Nat) : List Int := List.replicate n 2
theorem zh2 (n : Nat) : twos n ++ [2] = twos (n + 1) := by unfold twos; rw [List.replicate_succ']
theorem zby (n : Nat) : (twos n).length = n := by unfold twos; simp
theorem zcT (m : Mn) (l : List Sg) : (prL m l).length <= l.length := by
 unfold prL; split
 ·exact zh1 m l
 ·simp
theorem zbz (m : Mn) (l : List Sg) (hl : l.length <= 1000) : Fn Tryz.prog 220 [mnA m, sgsA l] (.tup [yg (prL m l), iv (ckD m l)]) := zes m l hl
attribute [local irreducible] prL twos
theorem zeP (m : Mn) (l : List Sg) (hl : l.length <= 1000) : Fn Tryz.prog 144 [mnA m, sgsA l] (.tup [yg (twos (prL m l).length), iv (ckD m l)]) := by
 have hq0 : [] = twos 0 := by unfold twos; rfl
 have hpl := zcT m l;refine Fn.go Tryz.func144 Tryz.ntmps144 (fun g w d => ?_);apply yb;refine yH ?_;iterate 2 refine ya ?_
 apply yn;iterate 2 refine ya ?_
 refine yr (zbz m l hl) ?_;iterate 5 refine ya ?_
 apply yn;refine ye ?_;iterate 2 apply yd
 refine y3 (yZ intE 3 1 8 8 rfl rfl) ?_;apply yc;refine ye ?_;apply X.block;refine y9 (ι := Nat) (fun (k : Nat) => [(6, yg (prL m l)), (7, iv (ckD m l)), (8, .own 8), (9, iv (k : Int))]) (fun (k : Nat) => [(8, .row intE (twos k) 3 1)]) (fun (k : Nat) => k <= (prL m l).length) (fun (k : Nat) => (prL m l).length - k) 0 (fun k hk => ?_);apply yd;apply yb;refine yX ?_;refine yk rfl ?_ ?_<;>intro hc1
 ·have hlen := zby k;have hst := zh2 k;apply yf;apply yd;apply X.block;apply yc;refine ya ?_;refine yO intE [_] ?_;refine yi ?_;refine ye ?_;apply yc;refine yp ?_;refine yL (k + 1)
 ·have hkl : k = (prL m l).length := by omega
  subst hkl;apply X.exit;apply yb;refine yX ?_;refine X.ret ?_;refine yu (Imp.freeze (k := 8) rfl) ?_;refine yz ?_ ?_;all_goals (rfl)
end Go.Rse
namespace Go.Rse
open Go Go.Proofs
attribute [local irreducible] Pur yK yM Ex X Fn Imp LeV LeB FnO It yW
attribute [local irreducible] zai zG zN z6 ckD
theorem zdz (m : Mn) (l : List Sg) (hl : l.length <= 1000) : FnO Tryz.prog 37 [mnA m, sgsA l] [] [] (.tup [.own 39, iv (ckD m l)]) [(39, .row intE (prL m l) 3 1)] := zhK m l hl
def ruK (p : List Int) (k : Nat) : List Int := twos k ++ p.drop k
theorem zn4 {p : List Int} {k : Nat} (h : k <= p.length) : (ruK p k).length = p.length := by unfold ruK; rw [List.length_append, zby, List.length_drop]; omega
theorem zn5 {p : List Int} {k : Nat} (h : k < p.length) : (ruK p k).set k 2 = ruK p (k + 1) := by
 unfold ruK;rw [List.set_append_right _ _ (by rw [zby]; omega), zby, Nat.sub_self, ← zh2, List.append_assoc];congr 1;rw [List.drop_eq_getElem_cons h]; rfl
theorem zrP (p : List Int) : p = ruK p 0 := by unfold ruK twos; rfl
theorem zrQ (p : List Int) : ruK p p.length = twos p.length := by unfold ruK; rw [List.drop_length, List.append_nil]
theorem zkh {m : Mn} {l : List Sg} (h : ¬ ckD m l = 0) : prL m l = [] := by unfold prL; rw [if_neg h]
attribute [local irreducible] prL twos ruK
theorem ziA (m : Mn) (l : List Sg) (hl : l.length <= 1000) : Fn Tryz.prog 84 [mnA m, sgsA l] (.tup [yg (twos (prL m l).length), iv (ckD m l)]) := by
 have hq0 := zrP (prL m l);have hqe := zrQ (prL m l);have hpl := zcT m l;refine Fn.go Tryz.func84 Tryz.ntmps84 (fun g w d => ?_);apply yb;refine yH ?_;iterate 2 refine ya ?_
 apply yn;iterate 2 refine ya ?_
 refine zap [(39, 39)] (zdz m l hl) ?_;refine y4 ?_;apply yd;apply yb;refine yh ?_;refine yk rfl ?_ ?_<;>intro hc1
 ·have ht : [] = twos (prL m l).length := by rw [zkh hc1]; unfold twos; rfl
  apply yb;refine yp ?_;refine X.ret ?_;refine yu (yl (ts := [(4, yg []), (5, iv (ckD m l))]) (hs := [])) ?_;refine yz ?_ ?_;all_goals (first | rfl | exact congrArg yg ht | exact congrArg yg hqe | exact congrArg (AV.int .i64) hc1.symm)
 apply yf;apply yd;apply yb;refine yp ?_;apply X.block;refine y9 (ι := Nat) (fun (k : Nat) => [(6, .own 39), (7, iv 0), (19, iv ((prL m l).length : Int)), (20, iv (k : Int))]) (fun (k : Nat) => [(39, .row intE (ruK (prL m l) k) 3 1)]) (fun (k : Nat) => k <= (prL m l).length) (fun (k : Nat) => (prL m l).length - k) 0 (fun k hk => ?_);apply yb;refine ye ?_;apply yd;refine yk rfl ?_ ?_<;>intro hc2
 ·have hlen := zn4 (p := prL m l) (k := k) (by omega);have hst := zn5 (p := prL m l) (k := k) (by omega);apply yf;apply yd;apply X.block;apply yb;refine yh ?_;apply yc;iterate 3 refine ya ?_
  refine yi ?_;apply Ex.nil;apply yc;refine yh ?_;refine yL (k + 1)
 ·have hkl : k = (prL m l).length := by omega
  subst hkl;apply X.exit;apply yb;refine yp ?_;refine X.ret ?_;refine yu (Imp.freeze (k := 39) rfl) ?_;refine yz ?_ ?_;all_goals (first | rfl | exact congrArg yg ht | exact congrArg yg hqe | exact congrArg (AV.int .i64) hc1.symm)
end Go.Rse
namespace Go.Rse
open Go Go.Proofs
attribute [local irreducible] Pur yK yM Ex X Fn Imp LeV LeB FnO It yW
attribute [local irreducible] zai zG zN z6 ckD
attribute [local irreducible] prL
end Go.Rse
