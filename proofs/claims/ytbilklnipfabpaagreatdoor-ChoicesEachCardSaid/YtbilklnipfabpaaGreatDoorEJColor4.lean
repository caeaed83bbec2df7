/-
  Walks: the positions of pairs.
-/
import Derived.Test.YtbilklnipfabpaaGreatDoorEJFull1
import Derived.Test.YtbilklnipfabpaaGreatDoorELogC
set_option linter.unusedSimpArgs false
set_option linter.unusedVariables false
namespace Go.Rse
open Go Go.Proofs
attribute [local irreducible] Pur yD yE Ex X Fn Imp LeV LeB FnO It yJ
def zaw (m : Mn) (l : List Sg) (i : Int) : Bool := decide (m.Pro = 2) && zaZ l i
def zD (m : Mn) (l : List Sg) : Nat -> List Int
 | 0 => []
 | k + 1 => if zaw m l (k : Int) = true then zD m l k ++ [(k : Int)] else zD m l k
def z7 (m : Mn) (l : List Sg) : List Int := zD m l l.length
def zfD (m : Mn) (l : List Sg) : List (List AV) := (z7 m l).map fun i => [iv i]
theorem zfc {m : Mn} {l : List Sg} {k : Nat} (h : zaw m l (k : Int) = true) : zD m l k ++ [(k : Int)] = zD m l (k + 1) := by
 conv => rhs; unfold zD
 rw [if_pos h]
theorem zgE {m : Mn} {l : List Sg} {k : Nat} (h : zaw m l (k : Int) = false) : zD m l k = zD m l (k + 1) := by
 conv => rhs; unfold zD
 rw [if_neg (by simp [h])]
theorem zhS (m : Mn) (l : List Sg) : ∀ k, (zD m l k).length <= k
 | 0 => Nat.le_refl _
 | k + 1 => by
  unfold zD;have := zhS m l k;split
  ·simp; omega
  ·omega
theorem zhT {m : Mn} {l : List Sg} (k : Nat) : ∀ d, ∃ r, zD m l (k + d) = zD m l k ++ r
 | 0 => ⟨[], by simp⟩
 | d + 1 => by
  obtain ⟨r, hr⟩ := zhT (m := m) (l := l) k d;show ∃ r, zD m l ((k + d) + 1) = _;by_cases h : zaw m l ((k + d : Nat) : Int) = true
  ·rw [← zfc h, hr]; exact ⟨r ++ [((k + d : Nat) : Int)], by simp⟩
  ·rw [← zgE (by simpa using h)]; exact ⟨r, hr⟩
theorem zme {m : Mn} {l : List Sg} {k : Nat} (hk : k < l.length) (h : zaw m l (k : Int) = true) : (zfD m l)[(zD m l k).length]? = some [iv (k : Int)] := by
 obtain ⟨r, hr⟩ := zhT (m := m) (l := l) (k + 1) (l.length - (k + 1));rw [show k + 1 + (l.length - (k + 1)) = l.length by omega, ← zfc h] at hr;unfold zfD z7;rw [hr]; simp
theorem zfd {m : Mn} {l : List Sg} {j : Nat} {zs : List AV} (h : (zfD m l)[j]? = some zs) : ∃ i, (z7 m l)[j]? = some i /\ zs = [iv i] := by
 rw [zfD, List.getElem?_map] at h;cases hk : (z7 m l)[j]? with
 | none => simp [hk] at h
 | some k => simp [hk] at h; exact ⟨k, rfl, h.symm⟩
attribute [local irreducible] zaZ zD z7
theorem zfW (m : Mn) (l : List Sg) (hl : l.length <= 4000000000) : It Tryz.prog 192 [.ept (fun _ : Unit => [.sl sgE l]) () 0, .ept (fun _ : Unit => mnE m) () 0] (zfD m l) := by
 have hp0 : (zD m l 0).length = 0 := by unfold zD; rfl
 refine It.intro (ts := fun lY => [(0, .yv lY), (1, .ept (fun _ : Unit => [.sl sgE l]) () 0), (2, .ept (fun _ : Unit => mnE m) () 0)]) (n := 25) (by kernel_rfl) Tryz.func192 rfl Tryz.ntmps192 rfl (fun _ => rfl) (by simp) (fun g w d ds Y lY hY => ?_);apply yb;refine yq ?_;apply X.block;refine zh (ι := Nat) (fun (k : Nat) => [(0, .yv lY), (1, .ept (fun _ : Unit => [.sl sgE l]) () 0), (2, .ept (fun _ : Unit => mnE m) () 0), (6, iv l.length), (7, iv (k : Int))]) (fun (k : Nat) => [(1000000, .yld (zD m l k).length true)]) (fun (k : Nat) => k <= l.length) (fun (k : Nat) => l.length - k) 0 (fun k hk => ?_);apply yb;refine yf ?_;apply ye;refine ym rfl ?_ ?_<;>intro hc1
 ·apply yg;apply ye;apply X.block;apply yb;refine yh ?_;apply ye;have hcs : (decide (m.Pro = 2) = false) \/ (decide (m.Pro = 2) = true /\ zaZ l (k : Int) = false) \/ (decide (m.Pro = 2) = true /\ zaZ l (k : Int) = true) := by cases decide (m.Pro = 2) <;> cases zaZ l (k : Int) <;> simp
  rcases hcs with hp | ⟨hp, hq⟩ | ⟨hp, hq⟩
  ·have hg3 : (decide (m.Pro = 2) == true) = false := by rw [hp]; rfl
   have hn : zaw m l (k : Int) = false := by unfold zaw; rw [hp]; rfl
   have hst := zgE hn;have hst2 := congrArg List.length hst.symm;apply yc;(iterate 4 refine ya ?_);(iterate 3 refine zaY ?_);(iterate 2 refine ya ?_);(iterate 4 refine zaY ?_);refine yf ?_;refine ym rfl ?_ ?_<;>intro hc2
   ·exact absurd hc2 (by decide)
   apply yg;apply yc;refine yh ?_;refine yQ (k + 1)
  ·have hg3 : (decide (m.Pro = 2) == true) = true := by rw [hp]; rfl
   have hg8 : (zaZ l (k : Int) == true) = false := by rw [hq]; rfl
   have hn : zaw m l (k : Int) = false := by unfold zaw; rw [hp, hq]; rfl
   have hst := zgE hn;have hst2 := congrArg List.length hst.symm;apply yc;(iterate 4 refine ya ?_);iterate 2 refine zy ?_
   (refine zot rfl rfl ?_ (zaz rfl rfl rfl (LeL.refl _) (zet l hl (k : Int) (by omega) (by omega))) rfl rfl ?_; iterate 1 (· first | exact hg3 | assumption | rfl | (simp_all; done) | omega))
   (iterate 2 refine ya ?_);(iterate 4 refine zaY ?_);refine yf ?_;refine ym rfl ?_ ?_<;>intro hc3
   ·exact absurd hc3 (by decide)
   apply yg;apply yc;refine yh ?_;refine yQ (k + 1)
  ·have hg3 : (decide (m.Pro = 2) == true) = true := by rw [hp]; rfl
   have hg8 : (zaZ l (k : Int) == true) = true := by rw [hq]; rfl
   have hn : zaw m l (k : Int) = true := by unfold zaw; rw [hp, hq]; rfl
   have hst := zfc hn;have hst2 := congrArg List.length hst;have hq1 := zme (by omega) hn;rw [List.length_append] at hst2;apply yc;(iterate 4 refine ya ?_);iterate 2 refine zy ?_
   (refine zot rfl rfl ?_ (zaz rfl rfl rfl (LeL.refl _) (zet l hl (k : Int) (by omega) (by omega))) rfl rfl ?_; iterate 1 (· first | exact hg3 | assumption | rfl | (simp_all; done) | omega))
   (iterate 2 refine ya ?_);(iterate 2 refine zy ?_);refine zby hY rfl rfl rfl (fun _ => ⟨_, _, rfl, rfl, rfl, LeL.refl _, rfl, rfl, hq1, fun b => ?_⟩) (fun h => absurd (h.symm.trans hg8) (by decide));refine zy ?_;refine yf ?_;refine ym rfl ?_ ?_<;>intro hc4
   ·subst hc4;refine X.ret ?_;refine ⟨.inr rfl, _, false, rfl, fun hb => by simp at hb⟩
   subst hc4;have hst3 : (zD m l (k + 1)).length = (zD m l k).length + 1 := hst2.symm;clear hst2;apply yg;apply yc;refine yh ?_;refine yQ (k + 1)
 ·have hkl : k = l.length := by omega
  subst hkl;apply X.exit;refine ⟨.inl rfl, _, true, rfl, fun _ => by unfold zfD z7; rw [List.length_map]⟩
theorem zhC (m : Mn) (l : List Sg) : Fn Tryz.prog 173 [mnA m, sgsA l] (.fn 192 [.ept (fun _ : Unit => [.sl sgE l]) () 0, .ept (fun _ : Unit => mnE m) () 0]) := by
 refine Fn.go Tryz.func173 Tryz.ntmps173 (fun g w d => ?_);apply yb;refine yH ?_;refine zb6 ?_;refine ya ?_;apply yk;refine yh ?_;refine X.ret ?_;refine RetQ.imp ((yT (k := 2) rfl rfl).trans (yT (k := 3) rfl rfl)) ?_;refine yo ?_;all_goals (first | rfl | (simp_all; done))
end Go.Rse
namespace Go.Rse
open Go Go.Proofs
attribute [local irreducible] Pur yD yE Ex X Fn Imp LeV LeB FnO It yJ
theorem zhU (m : Mn) (l : List Sg) : (z7 m l).length <= l.length := by unfold z7; exact zhS m l _
theorem zmf {α : Type} {a : List α} {j : Nat} {x : α} (h : a[j]? = some x) : a.take j ++ [x] = a.take (j + 1) := by
 rw [List.take_add_one, h]; rfl
attribute [local irreducible] zaZ zD z7 zaw ckD
theorem zhD (m : Mn) (z : List Sg) (hl : z.length <= 1000) : FnO Tryz.prog 129 [mnA m, sgsA z] [] [] (.tup [.own 39, iv (ckD m z)]) [(39, .row intE (if ckD m z = 0 then z7 m z else []) 3 1)] := by
 refine FnO.intro (ts := [(0, mnA m), (1, sgsA z)]) (rv := [.tmp 4, .tmp 5]) (n := 24) (cs := []) (by kernel_rfl) Tryz.func129 rfl Tryz.ntmps129 rfl rfl (by simp) rfl rfl rfl rfl (fun g w d vh => ?_);apply yb;refine yH ?_;refine yh ?_;apply ye;apply yb;iterate 2 refine ya ?_
 refine yp (zbg m z hl) ?_;refine ya ?_;apply yk;refine yh ?_;refine ym rfl ?_ ?_<;>intro hc1
 ·have hE : [] = (if ckD m z = 0 then z7 m z else []) := by rw [if_neg hc1]
  apply yb;refine yq ?_;refine X.ret ?_;refine zlV.imp (za intE 3 1 4 39 rfl rfl) ?_;refine zlV.mk (ts := [(4, .own 39), (5, iv (ckD m z))]) (.inr rfl) (yi) (.many (by decide) (.cons (.tmp rfl (LeV.eq rfl)) (.cons (.tmp rfl (LeV.eq rfl)) .nil)))
 have hpl := zhU m z;apply yg;apply yb;refine yG ?_;apply Ex.nil;iterate 2 apply ye
 refine X.imp (za8 intE 3 1 7 39 22 rfl rfl) ?_;apply yc;iterate 2 refine ya ?_
 refine yp (zhC m z) ?_;apply Ex.nil;apply X.block;have ht0 : [] = (z7 m z).take 0 := by simp
 have htl : (z7 m z).take (zfD m z).length = (if ckD m z = 0 then z7 m z else []) := by
  rw [if_pos hc1]; unfold zfD; rw [List.length_map, List.take_length]
 refine X.range (sl := [7]) (fun j => ([.ptr 7 0 0 0], [(1000001, .hold vh []), (7, .box [.own 39] 22), (39, .row intE ((z7 m z).take j) 3 1)])) (fun j => True) 900001 900002 rfl rfl (by decide) (fun j zs hj => by obtain ⟨i, _, rfl⟩ := zfd hj; rfl) (zfW m z (by omega)) trivial rfl rfl (by decide) (Nat.zero_le _) (by simp) (fun j zs hj => by obtain ⟨i, _, rfl⟩ := zfd hj; rfl) (fun _ => rfl) rfl rfl (fun l o us => yi) (trivial) (fun j zs hj hJ l ready busy rb vs g w hb hyB => ?_) (fun hJ => ?_)
 ·obtain ⟨i, hi, rfl⟩ := zfd hj;have hst := zmf hi;have hlt : ((z7 m z).take j).length <= 1000 := by simp; omega
  apply yc;refine yf ?_;refine ⟨rfl, rfl, ?_⟩;apply X.block;apply yc;iterate 2 refine ya ?_
  refine yS intE [_] ?_;iterate 2 refine yj ?_
  apply Ex.nil;refine ⟨[.ptr 7 0 0 0], [(1000001, .hold vh []), (7, .box [.own 39] 22), (39, .row intE ((z7 m z).take (j + 1)) 3 1)], yi, rfl, trivial⟩
 apply yb;refine yq ?_;refine X.ret ?_;refine zlV.mk (ts := [(4, .own 39), (5, iv (ckD m z))]) (.inr rfl) (yi) (.many (by decide) (.cons (.tmp rfl (LeV.eq rfl)) (.cons (.tmp rfl (LeV.eq rfl)) .nil)))
end Go.Rse
namespace Go.Rse
open Go Go.Proofs
attribute [local irreducible] Pur yD yE Ex X Fn Imp LeV LeB FnO It yJ
attribute [local irreducible] zaZ zD z7 zaw ckD
def prL (m : Mn) (l : List Sg) : List Int := if ckD m l = 0 then z7 m l else []
def twos (n : Nat) : List Int := List.replicate n 2
theorem zhV (n : Nat) : twos n ++ [2] = twos (n + 1) := by unfold twos; rw [List.replicate_succ']
theorem zcg (n : Nat) : (twos n).length = n := by unfold twos; simp
theorem zcv (m : Mn) (l : List Sg) : (prL m l).length <= l.length := by
 unfold prL; split
 ·exact zhU m l
 ·simp
def colN (m : Mn) (l : List Sg) : Int := if ckD m l = 0 then (if 6 < (prL m l).length then 0 else 2 ^ (prL m l).length) else 0
def colE (m : Mn) (l : List Sg) : Int := if ckD m l = 0 then (if 6 < (prL m l).length then 15 else 0) else ckD m l
theorem zke {m : Mn} {l : List Sg} (h : ¬ckD m l = 0) : 0 = colN m l := by unfold colN; rw [if_neg h]
theorem zkf {m : Mn} {l : List Sg} (h : ¬ckD m l = 0) : ckD m l = colE m l := by unfold colE; rw [if_neg h]
theorem zkg {m : Mn} {l : List Sg} (h : ckD m l = 0) (h6 : 6 < (prL m l).length) : 0 = colN m l := by unfold colN; rw [if_pos h, if_pos h6]
theorem zkh {m : Mn} {l : List Sg} (h : ckD m l = 0) (h6 : 6 < (prL m l).length) : 15 = colE m l := by unfold colE; rw [if_pos h, if_pos h6]
theorem zki {m : Mn} {l : List Sg} (h : ckD m l = 0) {k : Nat} (hk : k = (prL m l).length) (h6 : k <= 6) : 2 ^ k = colN m l := by unfold colN; rw [if_pos h, if_neg (by omega), hk]
theorem zkj {m : Mn} {l : List Sg} (h : ckD m l = 0) {k : Nat} (hk : k = (prL m l).length) (h6 : k <= 6) : 0 = colE m l := by unfold colE; rw [if_pos h, if_neg (by omega)]
theorem zch {k : Nat} (h : k <= 6) : 1 <= (2 : Int) ^ k /\ (2 : Int) ^ k <= 64 := by
 rcases k with _ | _ | _ | _ | _ | _ | _ | k <;> first | omega | (constructor <;> decide)
theorem zrV (k : Nat) : (2 : Int) * 2 ^ k = 2 ^ (k + 1) := by rw [Int.pow_succ]; omega
attribute [local irreducible] prL twos
end Go.Rse
namespace Go.Rse
open Go Go.Proofs
attribute [local irreducible] Pur yD yE Ex X Fn Imp LeV LeB FnO It yJ
attribute [local irreducible] zaZ zD z7 zaw ckD
theorem zbB (m : Mn) (l : List Sg) (hl : l.length <= 1000) : FnO Tryz.prog 129 [mnA m, sgsA l] [] [] (.tup [.own 39, iv (ckD m l)]) [(39, .row intE (prL m l) 3 1)] := zhD m l hl
def ruK (p : List Int) (k : Nat) : List Int := twos k ++ p.drop k
theorem zo1 {p : List Int} {k : Nat} (h : k <= p.length) : (ruK p k).length = p.length := by unfold ruK; rw [List.length_append, zcg, List.length_drop]; omega
theorem zo2 {p : List Int} {k : Nat} (h : k < p.length) : (ruK p k).set k 2 = ruK p (k + 1) := by
 unfold ruK;rw [List.set_append_right _ _ (by rw [zcg]; omega), zcg, Nat.sub_self, ← zhV, List.append_assoc];congr 1;rw [List.drop_eq_getElem_cons h]; rfl
theorem ztN (p : List Int) : p = ruK p 0 := by unfold ruK twos; rfl
theorem ztO (p : List Int) : ruK p p.length = twos p.length := by unfold ruK; rw [List.drop_length, List.append_nil]
theorem zmS {m : Mn} {l : List Sg} (h : ¬ ckD m l = 0) : prL m l = [] := by unfold prL; rw [if_neg h]
theorem zrW {k : Nat} (h : k <= 6) : IntKind.i64.wrap (1 * 2 ^ (k : Int).toNat) = 1 * 2 ^ (k : Int).toNat := by
 rcases k with _ | _ | _ | _ | _ | _ | _ | k <;> first | omega | rfl
theorem zkk (k : Nat) : (1 : Int) * 2 ^ (k : Int).toNat = 2 ^ k := by rw [Int.one_mul]; rfl
attribute [local irreducible] prL twos ruK
theorem ziz (m : Mn) (l : List Sg) (hl : l.length <= 1000) : Fn Tryz.prog 88 [mnA m, sgsA l] (.tup [yd (twos (prL m l).length), iv (ckD m l)]) := by
 have hq0 := ztN (prL m l);have hqe := ztO (prL m l);have hpl := zcv m l;refine Fn.go Tryz.func88 Tryz.ntmps88 (fun g w d => ?_);apply yb;refine yH ?_;iterate 2 refine ya ?_
 apply yk;iterate 2 refine ya ?_
 refine zU [(39, 39)] (zbB m l hl) ?_;refine zb ?_;apply ye;apply yb;refine yh ?_;refine ym rfl ?_ ?_<;>intro hc1
 ·have ht : [] = twos (prL m l).length := by rw [zmS hc1]; unfold twos; rfl
  apply yb;refine yq ?_;refine X.ret ?_;refine RetQ.imp (yi (ts := [(4, yd []), (5, iv (ckD m l))]) (hs := [])) ?_;refine yx ?_ ?_;all_goals (first | rfl | exact congrArg yd ht | exact congrArg yd hqe | exact congrArg (AV.int .i64) hc1.symm)
 apply yg;apply ye;apply yb;refine yq ?_;apply X.block;refine zh (ι := Nat) (fun (k : Nat) => [(6, .own 39), (7, iv 0), (19, iv ((prL m l).length : Int)), (20, iv (k : Int))]) (fun (k : Nat) => [(39, .row intE (ruK (prL m l) k) 3 1)]) (fun (k : Nat) => k <= (prL m l).length) (fun (k : Nat) => (prL m l).length - k) 0 (fun k hk => ?_);apply yb;refine yf ?_;apply ye;refine ym rfl ?_ ?_<;>intro hc2
 ·have hlen := zo1 (p := prL m l) (k := k) (by omega);have hst := zo2 (p := prL m l) (k := k) (by omega);apply yg;apply ye;apply X.block;apply yb;refine yh ?_;apply yc;iterate 3 refine ya ?_
  refine yj ?_;apply Ex.nil;apply yc;refine yh ?_;refine yQ (k + 1)
 ·have hkl : k = (prL m l).length := by omega
  subst hkl;apply X.exit;apply yb;refine yq ?_;refine X.ret ?_;refine RetQ.imp (Imp.freeze (k := 39) rfl) ?_;refine yx ?_ ?_;all_goals (first | rfl | exact congrArg yd ht | exact congrArg yd hqe | exact congrArg (AV.int .i64) hc1.symm)
theorem zdU (m : Mn) (l : List Sg) (hl : l.length <= 1000) : Fn Tryz.prog 158 [mnA m, sgsA l] (.tup [iv (colN m l), iv (colE m l)]) := by
 refine Fn.go Tryz.func158 Tryz.ntmps158 (fun g w d => ?_);apply yb;refine yH ?_;iterate 2 refine ya ?_
 apply yk;iterate 2 refine ya ?_
 refine zU [(39, 39)] (zbB m l hl) ?_;refine zb ?_;apply ye;apply yb;refine yh ?_;refine ym rfl ?_ ?_<;>intro hc1
 ·apply yb;refine yq ?_;refine X.ret ?_;refine RetQ.imp (yi (ts := [(4, iv 0), (5, iv (ckD m l))]) (hs := [])) ?_;refine yx ?_ ?_;all_goals (first | exact congrArg (AV.int .i64) (zke hc1) | exact congrArg (AV.int .i64) (zkf hc1) | exact congrArg (AV.int .i64) (zkg hc1 (by omega)) | exact congrArg (AV.int .i64) (zkh hc1 (by omega)) | exact congrArg (AV.int .i64) ((zkk _).trans (zki hc1 rfl (by omega))) | exact congrArg (AV.int .i64) (zkj hc1 rfl (by omega)))
 apply yg;apply ye;apply yb;refine yq ?_;refine ym rfl ?_ ?_<;>intro hc2
 ·apply yb;refine yh ?_;refine X.ret ?_;refine RetQ.imp (yi (ts := [(4, iv 0), (5, iv 15)]) (hs := [])) ?_;refine yx ?_ ?_;all_goals (first | exact congrArg (AV.int .i64) (zke hc1) | exact congrArg (AV.int .i64) (zkf hc1) | exact congrArg (AV.int .i64) (zkg hc1 (by omega)) | exact congrArg (AV.int .i64) (zkh hc1 (by omega)) | exact congrArg (AV.int .i64) ((zkk _).trans (zki hc1 rfl (by omega))) | exact congrArg (AV.int .i64) (zkj hc1 rfl (by omega)))
 apply yg;apply yb;iterate 2 refine ya ?_
 refine ya (hs := zu9 rfl rfl (by omega) (by omega) (zrW (by omega))) ?_;refine yh ?_;refine X.ret ?_;refine RetQ.imp (yi (ts := [(4, iv (1 * 2 ^ ((prL m l).length : Int).toNat)), (5, iv 0)]) (hs := [])) ?_;refine yx ?_ ?_;all_goals (first | exact congrArg (AV.int .i64) (zke hc1) | exact congrArg (AV.int .i64) (zkf hc1) | exact congrArg (AV.int .i64) (zkg hc1 (by omega)) | exact congrArg (AV.int .i64) (zkh hc1 (by omega)) | exact congrArg (AV.int .i64) ((zkk _).trans (zki hc1 rfl (by omega))) | exact congrArg (AV.int .i64) (zkj hc1 rfl (by omega)))
end Go.Rse
namespace Go.Rse
open Go Go.Proofs
attribute [local irreducible] Pur yD yE Ex X Fn Imp LeV LeB FnO It yJ
attribute [local irreducible] zaZ zD z7 zaw ckD
theorem zmT {m : Mn} {l : List Sg} (h : colE m l = 0) : ckD m l = 0 /\ (prL m l).length <= 6 /\ colN m l = 2 ^ (prL m l).length := by
 unfold colE at h;split at h
 ·next h1 =>
  split at h
  ·omega
  ·next h2 => exact ⟨h1, by omega, by unfold colN; rw [if_pos h1, if_neg h2]⟩
 ·next h1 => exact absurd h h1
def bitv (K j : Nat) : Int := if j < K then 2 ^ (K - 1 - j) else 0
def dig (n : Int) (K j : Nat) : Int := if n / 2 ^ (K - 1 - j) % 2 = 0 then 1 else 2
def digP (n : Int) (K j : Nat) : List Int := (List.range j).map (dig n K)
theorem zmg (n : Int) (K j : Nat) : digP n K j ++ [dig n K j] = digP n K (j + 1) := by unfold digP; rw [List.range_succ, List.map_append]; rfl
theorem zgF (n : Int) (K j : Nat) : (digP n K j).length = j := by unfold digP; simp
theorem zjn : ∀ K : Fin 7, ∀ j : Fin 7, bitv K.val j.val / 2 = bitv K.val (j.val + 1) /\ (j.val < K.val -> 1 <= bitv K.val j.val /\ bitv K.val j.val <= 64) := by decide
theorem zrX : ∀ K : Fin 7, (2 : Int) ^ K.val / 2 = bitv K.val 0 := by decide
theorem zrY {K j : Nat} (hK : K <= 6) (hj : j <= K) : bitv K j / 2 = bitv K (j + 1) := (zjn ⟨K, by omega⟩ ⟨j, by omega⟩).1
theorem zrZ {K j : Nat} (hK : K <= 6) (hj : j < K) : 1 <= bitv K j /\ bitv K j <= 64 := (zjn ⟨K, by omega⟩ ⟨j, by omega⟩).2 hj
theorem zr0 {K j : Nat} (hj : ¬ j < K) : bitv K j = 0 := by unfold bitv; rw [if_neg hj]
theorem zr1 {K j : Nat} (hj : j < K) : bitv K j = 2 ^ (K - 1 - j) := by unfold bitv; rw [if_pos hj]
theorem zo3 {n : Int} {K j : Nat} (h0 : 0 <= n) (h1 : n < 64) (hK : K <= 6) (hj : j < K) : dig n K j = if andI n (bitv K j) = 0 then 1 else 2 := by
 unfold dig; rw [zr1 hj];have h := zmC h0 h1 (k := K - 1 - j) (by omega);by_cases e : andI n (2 ^ (K - 1 - j)) = 0
 ·rw [if_pos e, if_pos (h.1 e)]
 ·rw [if_neg e, if_neg (fun x => e (h.2 x))]
def cfE (m : Mn) (l : List Sg) (n : Int) : Int := if colE m l = 0 then (if n < 0 \/ colN m l <= n then 2 else 0) else colE m l
def cfV (m : Mn) (l : List Sg) (n : Int) : List Int := if colE m l = 0 then (if n < 0 \/ colN m l <= n then [] else digP n (prL m l).length (prL m l).length) else []
theorem zmU {m : Mn} {l : List Sg} {n : Int} (h : ¬ colE m l = 0) : colE m l = cfE m l n := by unfold cfE; rw [if_neg h]
theorem zmV {m : Mn} {l : List Sg} {n : Int} (h : ¬ colE m l = 0) : [] = cfV m l n := by unfold cfV; rw [if_neg h]
theorem zmW {m : Mn} {l : List Sg} {n : Int} (h : colE m l = 0) (h2 : n < 0 \/ colN m l <= n) : 2 = cfE m l n := by unfold cfE; rw [if_pos h, if_pos h2]
theorem zmX {m : Mn} {l : List Sg} {n : Int} (h : colE m l = 0) (h2 : n < 0 \/ colN m l <= n) : [] = cfV m l n := by unfold cfV; rw [if_pos h, if_pos h2]
theorem zmY {m : Mn} {l : List Sg} {n : Int} (h : colE m l = 0) (h2 : ¬ (n < 0 \/ colN m l <= n)) : 0 = cfE m l n := by unfold cfE; rw [if_pos h, if_neg h2]
theorem zmZ {m : Mn} {l : List Sg} {n : Int} (h : colE m l = 0) (h2 : ¬ (n < 0 \/ colN m l <= n)) : digP n (prL m l).length (prL m l).length = cfV m l n := by unfold cfV; rw [if_pos h, if_neg h2]
attribute [local irreducible] prL colN colE bitv dig digP andI
theorem zkl (m : Mn) (l : List Sg) (n : Int) (hl : l.length <= 1000) : Fn Tryz.prog 111 [mnA m, sgsA l, iv n] (.tup [yd (cfV m l n), iv (cfE m l n)]) := by
 refine Fn.go Tryz.func111 Tryz.ntmps111 (fun g w d => ?_);apply yb;refine yH ?_;iterate 2 refine ya ?_
 apply yk;iterate 2 refine ya ?_
 refine yp (zdU m l hl) ?_;refine zb ?_;apply ye;apply yb;refine yh ?_;refine ym rfl ?_ ?_<;>intro hc1
 ·apply yb;refine yq ?_;refine X.ret ?_;refine RetQ.imp (yi (ts := [(6, yd []), (7, iv (colE m l))]) (hs := [])) ?_;refine yx ?_ ?_;all_goals (first | exact congrArg yd (zmV hc1) | exact congrArg (AV.int .i64) (zmU hc1) | exact congrArg yd (zmX hc1 (by omega)) | exact congrArg (AV.int .i64) (zmW hc1 (by omega)) | exact congrArg yd (zmZ hc1 (by omega)) | exact congrArg (AV.int .i64) (zmY hc1 (by omega)))
 apply yg;apply ye;apply yb;iterate 2 refine ya ?_
 refine ExF.at 2 ?_;refine yI ?_;iterate 3 refine ExF.gi ?_
 refine yF ?_;refine yf ?_;refine ym rfl ?_ ?_<;>intro hc2
 ·apply yb;refine yh ?_;refine X.ret ?_;refine RetQ.imp (yi (ts := [(6, yd []), (7, iv 2)]) (hs := [])) ?_;refine yx ?_ ?_;all_goals (first | exact congrArg yd (zmV hc1) | exact congrArg (AV.int .i64) (zmU hc1) | exact congrArg yd (zmX hc1 (by omega)) | exact congrArg (AV.int .i64) (zmW hc1 (by omega)) | exact congrArg yd (zmZ hc1 (by omega)) | exact congrArg (AV.int .i64) (zmY hc1 (by omega)))
 have hz := zmT hc1;have hpb := zch hz.2.1;have hb0 := zrX ⟨(prL m l).length, by omega⟩;have he0 : [] = digP n (prL m l).length 0 := by unfold digP; rfl
 have hk6 := hz.2.1;have hcn := hz.2.2;rw [← hcn] at hb0 hpb;apply yg;apply yb;refine yf ?_;iterate 2 apply ye
 refine X.imp (za intE 3 1 10 10 rfl rfl) ?_;apply yc;refine ya ?_;refine ya (hs := zkR rfl rfl) ?_;refine yf ?_;apply X.block;refine zh (ι := Nat) (fun (k : Nat) => [(2, iv n), (10, .own 10), (11, iv (bitv (prL m l).length k))]) (fun (k : Nat) => [(10, .row intE (digP n (prL m l).length k) 3 1)]) (fun (k : Nat) => k <= (prL m l).length) (fun (k : Nat) => (prL m l).length - k) 0 (fun k hk => ?_);apply ye;apply yb;refine yh ?_;refine ym rfl ?_ ?_<;>intro hc3
 ·have hkl : k < (prL m l).length := by
   apply Classical.byContradiction; intro hn;rw [zr0 hn] at hc3; omega
  have hlen := zgF n (prL m l).length k;have hbs := zrY (K := (prL m l).length) (j := k) hk6 (by omega);have hda := zo3 (n := n) (by omega) (by omega) hk6 hkl;have hst := zmg n (prL m l).length k;apply yg;apply ye;apply X.block;apply yb;iterate 2 refine ya ?_
  refine ya (hs := ztl rfl rfl) ?_;refine yf ?_;refine ym rfl ?_ ?_<;>intro hc4
  ·rw [if_pos hc4] at hda; rw [hda] at hst;apply yc;refine ya ?_;refine yS intE [_] ?_;refine yj ?_;refine yf ?_;apply yc;refine ya ?_;refine ya (hs := zkR rfl rfl) ?_;refine yf ?_;refine yQ (k + 1)
  ·rw [if_neg hc4] at hda; rw [hda] at hst;apply yc;refine ya ?_;refine yS intE [_] ?_;refine yj ?_;refine yf ?_;apply yc;refine ya ?_;refine ya (hs := zkR rfl rfl) ?_;refine yf ?_;refine yQ (k + 1)
 ·have hkl : k = (prL m l).length := by
   apply Classical.byContradiction; intro hn;have hbb := zrZ (K := (prL m l).length) (j := k) hk6 (by omega);omega
  subst hkl;apply X.exit;apply yb;refine yq ?_;refine X.ret ?_;refine RetQ.imp (Imp.freeze (k := 10) rfl) ?_;refine yx ?_ ?_;all_goals (first | exact congrArg yd (zmV hc1) | exact congrArg (AV.int .i64) (zmU hc1) | exact congrArg yd (zmX hc1 (by omega)) | exact congrArg (AV.int .i64) (zmW hc1 (by omega)) | exact congrArg yd (zmZ hc1 (by omega)) | exact congrArg (AV.int .i64) (zmY hc1 (by omega)))
end Go.Rse
namespace Go.Rse
open Go Go.Proofs
section
variable {α : Type}
theorem zdz {q : Int} : ∀ (l : List (Int × α)) (i : Nat), mix q l i = (mix q l 0).map (fun p => (p.1 + i, p.2))
 | [], i => rfl
 | p :: l, i => by
  unfold mix;by_cases h : p.1 = q
  ·simp [h]
  ·rw [if_neg h, if_neg h, zdz l (i + 1), zdz l 1, Option.map_map];congr 1; funext x; simp; omega
theorem zm0 (q : Int) : mget q ([] : List (Int × α)) = none := rfl
theorem zci (q : Int) (p : Int × α) (l : List (Int × α)) : mget q (p :: l) = if p.1 = q then some p.2 else mget q l := by
 have e : mix q (p :: l) 0 = if p.1 = q then some (0, p.2) else mix q l 1 := rfl
 unfold mget;rw [e];by_cases h : p.1 = q
 ·simp [h]
 ·rw [if_neg h, if_neg h, zdz l 1, Option.map_map]; rfl
theorem zm1 (q : Int) (x : α) : mput q x [] = [(q, x)] := rfl
theorem zmh (q : Int) (x : α) (p : Int × α) (l : List (Int × α)) : mput q x (p :: l) = if p.1 = q then (q, x) :: l else p :: mput q x l := by
 unfold mput;by_cases h : p.1 = q
 ·simp [mix, h]
 ·have e : mix q (p :: l) 0 = (mix q l 0).map (fun z => (z.1 + 1, z.2)) := by
   rw [show mix q (p :: l) 0 = mix q l 1 by simp [mix, h], zdz l 1]
  rw [e, if_neg h];cases mix q l 0 with
  | none => rfl
  | some z => rfl
theorem zdA (q q' : Int) (x : α) : ∀ l : List (Int × α), mget q (mput q' x l) = if q' = q then some x else mget q l
 | [] => by rw [zm1, zci]
 | p :: l => by
  rw [zmh];by_cases h : p.1 = q'
  ·rw [if_pos h, zci, zci];by_cases h2 : q' = q
   ·simp [h2]
   ·rw [if_neg h2, if_neg h2, if_neg (by rw [h]; exact h2)]
  ·rw [if_neg h, zci, zci, zdA q q' x l];by_cases h2 : p.1 = q
   ·rw [if_pos h2, if_pos h2, if_neg (by omega)]
   ·rw [if_neg h2, if_neg h2]
end
end Go.Rse
