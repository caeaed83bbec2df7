/-
  Walks: the positions of pairs.
  Walks: the list of pairs.
  Walks: the plain rule, the count.
  Walks: Rule, Count, Of.
  Walks: Of.
-/
import Derived.Test.YtfiiobachmglpaaGreatDoorEColA
import Derived.Test.YtfiiobachmglpaaGreatDoorERefA
import Derived.Test.YtfiiobachmglpaaGreatDoorELogC
set_option linter.unusedSimpArgs false
set_option linter.unusedVariables false
namespace Go.Rse
open Go Go.Proofs
attribute [local irreducible] Pur yM yO Ex X Fn Imp LeV LeB FnO It yW
def zZ (m : Mn) (l : List Sg) (i : Int) : Bool := decide (m.Pro = 2) && zah l i
def zF (m : Mn) (l : List Sg) : Nat -> List Int
 | 0 => []
 | k + 1 => if zZ m l (k : Int) = true then zF m l k ++ [(k : Int)] else zF m l k
def zM (m : Mn) (l : List Sg) : List Int := zF m l l.length
def zf8 (m : Mn) (l : List Sg) : List (List AV) := (zM m l).map fun i => [iv i]
theorem zd9 {m : Mn} {l : List Sg} {k : Nat} (h : zZ m l (k : Int) = true) : zF m l k ++ [(k : Int)] = zF m l (k + 1) := by
 conv => rhs; unfold zF
 rw [if_pos h]
theorem ze6 {m : Mn} {l : List Sg} {k : Nat} (h : zZ m l (k : Int) = false) : zF m l k = zF m l (k + 1) := by
 conv => rhs; unfold zF
 rw [if_neg (by simp [h])]
theorem zfN (m : Mn) (l : List Sg) : ∀ k, (zF m l k).length <= k
 | 0 => Nat.le_refl _
 | k + 1 => by
  unfold zF;have := zfN m l k;split
  ·simp; omega
  ·omega
theorem zhX {m : Mn} {l : List Sg} (k : Nat) : ∀ d, ∃ r, zF m l (k + d) = zF m l k ++ r
 | 0 => ⟨[], by simp⟩
 | d + 1 => by
  obtain ⟨r, hr⟩ := zhX (m := m) (l := l) k d;show ∃ r, zF m l ((k + d) + 1) = _;by_cases h : zZ m l ((k + d : Nat) : Int) = true
  ·rw [← zd9 h, hr]; exact ⟨r ++ [((k + d : Nat) : Int)], by simp⟩
  ·rw [← ze6 (by simpa using h)]; exact ⟨r, hr⟩
theorem zl4 {m : Mn} {l : List Sg} {k : Nat} (hk : k < l.length) (h : zZ m l (k : Int) = true) : (zf8 m l)[(zF m l k).length]? = some [iv (k : Int)] := by
 obtain ⟨r, hr⟩ := zhX (m := m) (l := l) (k + 1) (l.length - (k + 1));rw [show k + 1 + (l.length - (k + 1)) = l.length by omega, ← zd9 h] at hr;unfold zf8 zM;rw [hr]; simp
theorem zfO {m : Mn} {l : List Sg} {j : Nat} {zs : List AV} (h : (zf8 m l)[j]? = some zs) : ∃ i, (zM m l)[j]? = some i /\ zs = [iv i] := by
 rw [zf8, List.getElem?_map] at h;cases hk : (zM m l)[j]? with
 | none => simp [hk] at h
 | some k => simp [hk] at h; exact ⟨k, rfl, h.symm⟩
attribute [local irreducible] zah zF zM
theorem zgl (m : Mn) (l : List Sg) (hl : l.length <= 4000000000) : It Tryz.prog 169 [.ept (fun _ : Unit => [.sl sgE l]) () 0, .ept (fun _ : Unit => mnE m) () 0] (zf8 m l) := by
 have hp0 : (zF m l 0).length = 0 := by unfold zF; rfl
 refine It.intro (ts := fun lY => [(0, .yv lY), (1, .ept (fun _ : Unit => [.sl sgE l]) () 0), (2, .ept (fun _ : Unit => mnE m) () 0)]) (n := 25) (by kernel_rfl) Tryz.func169 rfl Tryz.ntmps169 rfl (fun _ => rfl) (by simp) (fun g w d ds Y lY hY => ?_);apply yb;refine yp ?_;apply X.block;refine zd (ι := Nat) (fun (k : Nat) => [(0, .yv lY), (1, .ept (fun _ : Unit => [.sl sgE l]) () 0), (2, .ept (fun _ : Unit => mnE m) () 0), (6, iv l.length), (7, iv (k : Int))]) (fun (k : Nat) => [(1000000, .yld (zF m l k).length true)]) (fun (k : Nat) => k <= l.length) (fun (k : Nat) => l.length - k) 0 (fun k hk => ?_);apply yb;refine ye ?_;apply yd;refine yj rfl ?_ ?_<;>intro hc1
 ·apply yf;apply yd;apply X.block;apply yb;refine yh ?_;apply yd;have hcs : (decide (m.Pro = 2) = false) \/ (decide (m.Pro = 2) = true /\ zah l (k : Int) = false) \/ (decide (m.Pro = 2) = true /\ zah l (k : Int) = true) := by cases decide (m.Pro = 2) <;> cases zah l (k : Int) <;> simp
  rcases hcs with hp | ⟨hp, hq⟩ | ⟨hp, hq⟩
  ·have hg3 : (decide (m.Pro = 2) == true) = false := by rw [hp]; rfl
   have hn : zZ m l (k : Int) = false := by unfold zZ; rw [hp]; rfl
   have hst := ze6 hn;have hst2 := congrArg List.length hst.symm;apply yc;(iterate 4 refine ya ?_);(iterate 3 refine zbl ?_);(iterate 2 refine ya ?_);(iterate 4 refine zbl ?_);refine ye ?_;refine yj rfl ?_ ?_<;>intro hc2
   ·exact absurd hc2 (by decide)
   apply yf;apply yc;refine yh ?_;refine yK (k + 1)
  ·have hg3 : (decide (m.Pro = 2) == true) = true := by rw [hp]; rfl
   have hg8 : (zah l (k : Int) == true) = false := by rw [hq]; rfl
   have hn : zZ m l (k : Int) = false := by unfold zZ; rw [hp, hq]; rfl
   have hst := ze6 hn;have hst2 := congrArg List.length hst.symm;apply yc;(iterate 4 refine ya ?_);iterate 2 refine zR ?_
   (refine zm8 rfl rfl ?_ (zaw rfl rfl rfl (LeL.refl _) (ze5 l hl (k : Int) (by omega) (by omega))) rfl rfl ?_; iterate 1 (· first | exact hg3 | assumption | rfl | (simp_all; done) | omega))
   (iterate 2 refine ya ?_);(iterate 4 refine zbl ?_);refine ye ?_;refine yj rfl ?_ ?_<;>intro hc3
   ·exact absurd hc3 (by decide)
   apply yf;apply yc;refine yh ?_;refine yK (k + 1)
  ·have hg3 : (decide (m.Pro = 2) == true) = true := by rw [hp]; rfl
   have hg8 : (zah l (k : Int) == true) = true := by rw [hq]; rfl
   have hn : zZ m l (k : Int) = true := by unfold zZ; rw [hp, hq]; rfl
   have hst := zd9 hn;have hst2 := congrArg List.length hst;have hq1 := zl4 (by omega) hn;rw [List.length_append] at hst2;apply yc;(iterate 4 refine ya ?_);iterate 2 refine zR ?_
   (refine zm8 rfl rfl ?_ (zaw rfl rfl rfl (LeL.refl _) (ze5 l hl (k : Int) (by omega) (by omega))) rfl rfl ?_; iterate 1 (· first | exact hg3 | assumption | rfl | (simp_all; done) | omega))
   (iterate 2 refine ya ?_);(iterate 2 refine zR ?_);refine zbT hY rfl rfl rfl (fun _ => ⟨_, _, rfl, rfl, rfl, LeL.refl _, rfl, rfl, hq1, fun b => ?_⟩) (fun h => absurd (h.symm.trans hg8) (by decide));refine zR ?_;refine ye ?_;refine yj rfl ?_ ?_<;>intro hc4
   ·subst hc4;refine X.ret ?_;refine ⟨.inr rfl, _, false, rfl, fun hb => by simp at hb⟩
   subst hc4;have hst3 : (zF m l (k + 1)).length = (zF m l k).length + 1 := hst2.symm;clear hst2;apply yf;apply yc;refine yh ?_;refine yK (k + 1)
 ·have hkl : k = l.length := by omega
  subst hkl;apply X.exit;refine ⟨.inl rfl, _, true, rfl, fun _ => by unfold zf8 zM; rw [List.length_map]⟩
theorem zhG (m : Mn) (l : List Sg) : Fn Tryz.prog 96 [mnA m, sgsA l] (.fn 169 [.ept (fun _ : Unit => [.sl sgE l]) () 0, .ept (fun _ : Unit => mnE m) () 0]) := by
 refine Fn.go Tryz.func96 Tryz.ntmps96 (fun g w d => ?_);apply yb;refine yH ?_;refine zeB ?_;refine ya ?_;apply yn;refine yh ?_;refine X.ret ?_;refine yu ((y7 (k := 2) rfl rfl).trans (y7 (k := 3) rfl rfl)) ?_;refine ym ?_;all_goals (first | rfl | (simp_all; done))
end Go.Rse
namespace Go.Rse
open Go Go.Proofs
attribute [local irreducible] Pur yM yO Ex X Fn Imp LeV LeB FnO It yW
theorem zhY (m : Mn) (l : List Sg) : (zM m l).length <= l.length := by unfold zM; exact zfN m l _
theorem zl5 {α : Type} {a : List α} {j : Nat} {x : α} (h : a[j]? = some x) : a.take j ++ [x] = a.take (j + 1) := by
 rw [List.take_add_one, h]; rfl
theorem zkh {m : Mn} {l : List Sg} {k : Int} (h : m.p 4 = 2 /\ zah l k = true) : zZ m l k = true := by
 have e : m.p 4 = m.Pro := rfl;rw [e] at h; unfold zZ; rw [decide_eq_true h.1, h.2]; rfl
theorem zl6 {m : Mn} {l : List Sg} {k : Int} (h : ¬ m.p 4 = 2 \/ zah l k = false) : zZ m l k = false := by
 have e : m.p 4 = m.Pro := rfl;rw [e] at h; unfold zZ;rcases h with h | h
 ·rw [decide_eq_false h]; rfl
 ·rw [h]; simp
attribute [local irreducible] zah zF zM zZ ckD
theorem zhH (m : Mn) (z : List Sg) (hl : z.length <= 1000) : FnO Tryz.prog 37 [mnA m, sgsA z] [] [] (.tup [.own 39, iv (ckD m z)]) [(39, .row intE (if ckD m z = 0 then zM m z else []) 3 1)] := by
 refine FnO.intro (ts := [(0, mnA m), (1, sgsA z)]) (rv := [.tmp 4, .tmp 5]) (n := 24) (cs := []) (by kernel_rfl) Tryz.func37 rfl Tryz.ntmps37 rfl rfl (by simp) rfl rfl rfl rfl (fun g w d vh => ?_);apply yb;refine yH ?_;refine yh ?_;apply yd;apply yb;iterate 2 refine ya ?_
 refine yr (zcj m z hl) ?_;refine ya ?_;apply yn;refine yh ?_;refine yj rfl ?_ ?_<;>intro hc1
 ·have hE : [] = (if ckD m z = 0 then zM m z else []) := by rw [if_neg hc1]
  apply yb;refine yp ?_;refine X.ret ?_;refine zfW (yZ intE 3 1 4 39 rfl rfl) ?_;refine zln.mk (ts := [(4, .own 39), (5, iv (ckD m z))]) (.inr rfl) (yl) (.many (by decide) (.cons (.tmp rfl (LeV.eq rfl)) (.cons (.tmp rfl (LeV.eq rfl)) .nil)))
 have hpl := zhY m z;apply yf;apply yb;refine yI ?_;apply Ex.nil;iterate 2 apply yd
 refine y2 (zb5 intE 3 1 7 39 27 rfl rfl) ?_;apply yc;iterate 2 refine ya ?_
 refine yr (zhG m z) ?_;apply Ex.nil;apply X.block;have ht0 : [] = (zM m z).take 0 := by simp
 have htl : (zM m z).take (zf8 m z).length = (if ckD m z = 0 then zM m z else []) := by
  rw [if_pos hc1]; unfold zf8; rw [List.length_map, List.take_length]
 refine X.range (sl := [7]) (fun j => ([.ptr 7 0 0 0], [(1000001, .hold vh []), (7, .box [.own 39] 27), (39, .row intE ((zM m z).take j) 3 1)])) (fun j => True) 900001 900002 rfl rfl (by decide) (fun j zs hj => by obtain ⟨i, _, rfl⟩ := zfO hj; rfl) (zgl m z (by omega)) trivial rfl rfl (by decide) (Nat.zero_le _) (by simp) (fun j zs hj => by obtain ⟨i, _, rfl⟩ := zfO hj; rfl) (fun _ => rfl) rfl rfl (fun l o us => yl) (trivial) (fun j zs hj hJ l ready busy rb vs g w hb hyB => ?_) (fun hJ => ?_)
 ·obtain ⟨i, hi, rfl⟩ := zfO hj;have hst := zl5 hi;have hlt : ((zM m z).take j).length <= 1000 := by simp; omega
  apply yc;refine ye ?_;refine ⟨rfl, rfl, ?_⟩;apply X.block;apply yc;iterate 2 refine ya ?_
  refine yL intE [_] ?_;iterate 2 refine yi ?_
  apply Ex.nil;refine ⟨[.ptr 7 0 0 0], [(1000001, .hold vh []), (7, .box [.own 39] 27), (39, .row intE ((zM m z).take (j + 1)) 3 1)], yl, rfl, trivial⟩
 apply yb;refine yp ?_;refine X.ret ?_;refine zln.mk (ts := [(4, .own 39), (5, iv (ckD m z))]) (.inr rfl) (yl) (.many (by decide) (.cons (.tmp rfl (LeV.eq rfl)) (.cons (.tmp rfl (LeV.eq rfl)) .nil)))
theorem zem (m : Mn) (l : List Sg) (hl : l.length <= 1000) : Fn Tryz.prog 220 [mnA m, sgsA l] (.tup [yg (if ckD m l = 0 then zM m l else []), iv (ckD m l)]) := by
 have hq0 : [] = zF m l 0 := by unfold zF; rfl
 have hqL : zF m l l.length = zM m l := by unfold zM; rfl
 refine Fn.go Tryz.func220 Tryz.ntmps220 (fun g w d => ?_);apply yb;refine yH ?_;iterate 2 refine ya ?_
 apply yn;iterate 2 refine ya ?_
 refine yr (zbE m l hl) ?_;refine ye ?_;apply yd;apply yb;refine yh ?_;refine yj rfl ?_ ?_<;>intro hc1
 ·apply yb;refine yp ?_;refine X.ret ?_;refine yu (yl (ts := [(4, yg []), (5, iv (ckD m l))]) (hs := [])) ?_;refine yA ?_ ?_;all_goals (first | (rw [if_neg hc1]; done) | rfl | (rw [if_pos hc1, ← hqL]; rfl) | (rw [if_pos hc1, ← hqL]; done) | (rw [hc1]; done) | (rw [hc1]; rfl))
 apply yf;apply yb;refine ye ?_;iterate 2 apply yd
 refine y2 (yZ intE 3 1 7 7 rfl rfl) ?_;apply yc;refine ye ?_;apply X.block;refine zd (ι := Nat) (fun (k : Nat) => [(1, sgsA l), (2, .ptr 2 0 0 0), (7, .own 7), (8, iv (k : Int))]) (fun (k : Nat) => [(2, .box (mnE m) 23), (7, .row intE (zF m l k) 3 1)]) (fun (k : Nat) => k <= l.length) (fun (k : Nat) => l.length - k) 0 (fun k hk => ?_);apply yd;apply yb;refine yY ?_;refine yj rfl ?_ ?_<;>intro hc2
 ·have hlen := zfN m l k;apply yf;apply yd;apply X.block;apply yb;iterate 3 refine ya ?_
  refine yr (zeI m l (by omega) (k : Int) (by omega) (by omega)) ?_;apply Ex.nil;refine yj rfl ?_ ?_<;>intro hc3
  ·have hrow := zd9 (zkh hc3);apply yc;(iterate 2 refine ya ?_);refine yL intE [_] ?_;refine yi ?_;refine ye ?_;apply yc;refine yp ?_;refine yK (k + 1)
  ·have hrow := ze6 (zl6 hc3);apply yf;apply yc;refine yp ?_;refine yK (k + 1)
 ·have hkl : k = l.length := by omega
  subst hkl;apply X.exit;apply yb;refine yp ?_;refine X.ret ?_;refine yu (Imp.freeze (k := 7) rfl) ?_;refine yA ?_ ?_;all_goals (first | (rw [if_neg hc1]; done) | rfl | (rw [if_pos hc1, ← hqL]; rfl) | (rw [if_pos hc1, ← hqL]; done) | (rw [hc1]; done) | (rw [hc1]; rfl))
end Go.Rse
namespace Go.Rse
open Go Go.Proofs
attribute [local irreducible] Pur yM yO Ex X Fn Imp LeV LeB FnO It yW
attribute [local irreducible] zah zF zM zZ ckD
def prL (m : Mn) (l : List Sg) : List Int := if ckD m l = 0 then zM m l else []
def twos (n : Nat) : List Int := List.replicate n 2
theorem zhZ (n : Nat) : twos n ++ [2] = twos (n + 1) := by unfold twos; rw [List.replicate_succ']
theorem zbx (n : Nat) : (twos n).length = n := by unfold twos; simp
theorem zcP (m : Mn) (l : List Sg) : (prL m l).length <= l.length := by
 unfold prL; split
 ·exact zhY m l
 ·simp
theorem zby (m : Mn) (l : List Sg) (hl : l.length <= 1000) : Fn Tryz.prog 220 [mnA m, sgsA l] (.tup [yg (prL m l), iv (ckD m l)]) := zem m l hl
attribute [local irreducible] prL twos
theorem zeJ (m : Mn) (l : List Sg) (hl : l.length <= 1000) : Fn Tryz.prog 144 [mnA m, sgsA l] (.tup [yg (twos (prL m l).length), iv (ckD m l)]) := by
 have hq0 : [] = twos 0 := by unfold twos; rfl
 have hpl := zcP m l;refine Fn.go Tryz.func144 Tryz.ntmps144 (fun g w d => ?_);apply yb;refine yH ?_;iterate 2 refine ya ?_
 apply yn;iterate 2 refine ya ?_
 refine yr (zby m l hl) ?_;iterate 5 refine ya ?_
 apply yn;refine ye ?_;iterate 2 apply yd
 refine y2 (yZ intE 3 1 8 8 rfl rfl) ?_;apply yc;refine ye ?_;apply X.block;refine zd (ι := Nat) (fun (k : Nat) => [(6, yg (prL m l)), (7, iv (ckD m l)), (8, .own 8), (9, iv (k : Int))]) (fun (k : Nat) => [(8, .row intE (twos k) 3 1)]) (fun (k : Nat) => k <= (prL m l).length) (fun (k : Nat) => (prL m l).length - k) 0 (fun k hk => ?_);apply yd;apply yb;refine yY ?_;refine yj rfl ?_ ?_<;>intro hc1
 ·have hlen := zbx k;have hst := zhZ k;apply yf;apply yd;apply X.block;apply yc;refine ya ?_;refine yL intE [_] ?_;refine yi ?_;refine ye ?_;apply yc;refine yp ?_;refine yK (k + 1)
 ·have hkl : k = (prL m l).length := by omega
  subst hkl;apply X.exit;apply yb;refine yY ?_;refine X.ret ?_;refine yu (Imp.freeze (k := 8) rfl) ?_;refine yA ?_ ?_;all_goals (rfl)
end Go.Rse
namespace Go.Rse
open Go Go.Proofs
attribute [local irreducible] Pur yM yO Ex X Fn Imp LeV LeB FnO It yW
attribute [local irreducible] zah zF zM zZ ckD
theorem zdv (m : Mn) (l : List Sg) (hl : l.length <= 1000) : FnO Tryz.prog 37 [mnA m, sgsA l] [] [] (.tup [.own 39, iv (ckD m l)]) [(39, .row intE (prL m l) 3 1)] := zhH m l hl
def ruK (p : List Int) (k : Nat) : List Int := twos k ++ p.drop k
theorem zn6 {p : List Int} {k : Nat} (h : k <= p.length) : (ruK p k).length = p.length := by unfold ruK; rw [List.length_append, zbx, List.length_drop]; omega
theorem zn7 {p : List Int} {k : Nat} (h : k < p.length) : (ruK p k).set k 2 = ruK p (k + 1) := by
 unfold ruK;rw [List.set_append_right _ _ (by rw [zbx]; omega), zbx, Nat.sub_self, ← zhZ, List.append_assoc];congr 1;rw [List.drop_eq_getElem_cons h]; rfl
theorem zrZ (p : List Int) : p = ruK p 0 := by unfold ruK twos; rfl
theorem zr0 (p : List Int) : ruK p p.length = twos p.length := by unfold ruK; rw [List.drop_length, List.append_nil]
theorem zki {m : Mn} {l : List Sg} (h : ¬ ckD m l = 0) : prL m l = [] := by unfold prL; rw [if_neg h]
attribute [local irreducible] prL twos ruK
theorem ziy (m : Mn) (l : List Sg) (hl : l.length <= 1000) : Fn Tryz.prog 84 [mnA m, sgsA l] (.tup [yg (twos (prL m l).length), iv (ckD m l)]) := by
 have hq0 := zrZ (prL m l);have hqe := zr0 (prL m l);have hpl := zcP m l;refine Fn.go Tryz.func84 Tryz.ntmps84 (fun g w d => ?_);apply yb;refine yH ?_;iterate 2 refine ya ?_
 apply yn;iterate 2 refine ya ?_
 refine zap [(39, 39)] (zdv m l hl) ?_;refine zb ?_;apply yd;apply yb;refine yh ?_;refine yj rfl ?_ ?_<;>intro hc1
 ·have ht : [] = twos (prL m l).length := by rw [zki hc1]; unfold twos; rfl
  apply yb;refine yp ?_;refine X.ret ?_;refine yu (yl (ts := [(4, yg []), (5, iv (ckD m l))]) (hs := [])) ?_;refine yA ?_ ?_;all_goals (first | rfl | exact congrArg yg ht | exact congrArg yg hqe | exact congrArg (AV.int .i64) hc1.symm)
 apply yf;apply yd;apply yb;refine yp ?_;apply X.block;refine zd (ι := Nat) (fun (k : Nat) => [(6, .own 39), (7, iv 0), (19, iv ((prL m l).length : Int)), (20, iv (k : Int))]) (fun (k : Nat) => [(39, .row intE (ruK (prL m l) k) 3 1)]) (fun (k : Nat) => k <= (prL m l).length) (fun (k : Nat) => (prL m l).length - k) 0 (fun k hk => ?_);apply yb;refine ye ?_;apply yd;refine yj rfl ?_ ?_<;>intro hc2
 ·have hlen := zn6 (p := prL m l) (k := k) (by omega);have hst := zn7 (p := prL m l) (k := k) (by omega);apply yf;apply yd;apply X.block;apply yb;refine yh ?_;apply yc;iterate 3 refine ya ?_
  refine yi ?_;apply Ex.nil;apply yc;refine yh ?_;refine yK (k + 1)
 ·have hkl : k = (prL m l).length := by omega
  subst hkl;apply X.exit;apply yb;refine yp ?_;refine X.ret ?_;refine yu (Imp.freeze (k := 39) rfl) ?_;refine yA ?_ ?_;all_goals (first | rfl | exact congrArg yg ht | exact congrArg yg hqe | exact congrArg (AV.int .i64) hc1.symm)
end Go.Rse
namespace Go.Rse
open Go Go.Proofs
attribute [local irreducible] Pur yM yO Ex X Fn Imp LeV LeB FnO It yW
attribute [local irreducible] zah zF zM zZ ckD
attribute [local irreducible] prL
end Go.Rse
