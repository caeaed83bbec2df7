/-
  Walks.
-/
import Derived.Test.YtbopkhoalndflaaGreatDoorVJRef5
set_option linter.all false
namespace Go.Rse
open Go Go.Proofs Go.Proofs.Tryz
attribute [local irreducible] Pur yu yq Ex X Fn Imp LeV LeB FnO It yD
def zmf {m : Mn} {v : Int} (hm : ckM m = 0) (Z : 1 <= v) (V : v <= 8) : ckMV m v = 0 := by
 unfold ckM at hm; unfold ckMV;split at hm
 ·rw [j4 (by assumption), j4 ⟨Z, V⟩]
 ·simp at hm
def zH {m : Mn} {v : Int} (hm : ckM m = 0) (Z : 1 <= v) (V : v <= 8) : Fn prog 150 [mnA m, iv v] (.tup [tmA (yp m v), iv 0]) := by
 have h := zfJ m v;rw [zmf hm Z V, j4 rfl] at h; exact h
def zd2 {m : Mn} (hm : ckM m = 0) : Fn prog 242 [mnA m] (.tup [yc (perfL m), iv 0]) := by
 have h := zb5 m;rw [hm, j4 rfl] at h; exact h
def zle {m : Mn} (hm : ckM m = 0) (h : ¬ ((perfL m).length : Int) = 0) : m.pl = false := by
 cases Z : m.pl with
 | false => rfl
 | true => exact absurd ((zlG m hm).2 Z) h
def zuN {m : Mn} {v : Int} (hm : ckM m = 0) (V : 1 <= v) (U : v <= 8) (h : ((perfL m).length : Int) = 0 \/ (v < 5 /\ m.p v = 3)) : durT m v = tmkT ((yp m v).N * 2) ((yp m v).D * 3) := by
 rw [← (zeT hm V U).1];cases Z : m.pl with
 | true => exact znl Z
 | false =>
  rcases h with h | h
  ·rw [(zlG m hm).1 h] at Z; cases Z
  ·exact zpU Z h.1 h.2
def zuO {m : Mn} {v : Int} (hm : ckM m = 0) (T : 1 <= v) (Z : m.pl = false) (V : v < 5) (U : ¬ m.p v = 3) : durT m v = tmkT ((durT m (v + 1)).N * 2) ((durT m (v + 1)).D * 1) := by
 rw [← (zeT hm (show 1 <= v + 1 by omega) (by omega)).2.1];exact zpV Z V U
def clr (s : Sg) : Bool := decide (s.Kind = 1) && s.Color
def zc6 (l : List Sg) (by' : Int) : Nat -> Int -> Option Sg
 | 0, _ => none
 | n + 1, i => if 0 <= i /\ i < (l.length : Int) then (if (l.getD i.toNat default).Kind = 3 then zc6 l by' n (i + by') else some (l.getD i.toNat default)) else none
def zc7 (l : List Sg) (by' i : Int) : Option Sg := zc6 l by' (l.length + 2) i
def zjw {l : List Sg} {by' : Int} {n : Nat} {i : Int} (h : ¬ (0 <= i /\ i < (l.length : Int))) : zc6 l by' n i = none := by
 cases n with
 | zero => rfl
 | succ n => unfold zc6; rw [j3 h]
def zjx {l : List Sg} {by' : Int} {n : Nat} {i : Int} (h : 0 <= i /\ i < (l.length : Int)) (Z : ¬ (l.getD i.toNat default).Kind = 3) (V : 0 < n) : zc6 l by' n i = some (l.getD i.toNat default) := by
 cases n with
 | zero => omega
 | succ n => unfold zc6; rw [j4 h, j3 Z]
def zlf {l : List Sg} {by' : Int} {n : Nat} {i : Int} (h : 0 <= i /\ i < (l.length : Int)) (Z : (l.getD i.toNat default).Kind = 3) (V : 0 < n) : zc6 l by' n i = zc6 l by' (n - 1) (i + by') := by
 cases n with
 | zero => omega
 | succ n => conv => lhs; unfold zc6
             rw [j4 h, j4 Z]; rfl
def sgZ0 : Sg := ⟨0, 0, 0, 0, false, 0, false, false, ⟨0, 0, 0, 0⟩, false, 0, 0, 0, 0⟩
def frB : Option Sg -> Bool
 | some s => !clr s
 | none => true
def zmX : Option Sg -> Sg
 | some s => s
 | none => sgZ0
def zaB (l : List Sg) (i : Int) : Bool := decide (i + 1 < (l.length : Int)) && clr (l.getD i.toNat default) && decide ((l.getD i.toNat default).Value = 4) && clr (l.getD (i + 1).toNat default) && decide ((l.getD (i + 1).toNat default).Value = 5) &&
 !(decide (i + 2 < (l.length : Int)) && decide ((l.getD (i + 2).toNat default).Kind = 3)) && frB (zc7 l (-1) (i - 1)) && frB (zc7 l 1 (i + 2))
attribute [local irreducible] yp durT mulV tmkT perfL zc6
def zce (t : Tm) (n q : Int) (Z : 0 <= t.N * n /\ t.N * n <= 9223372036854775807) (V : 0 <= t.D * q /\ t.D * q <= 9223372036854775807) : Fn prog 308 [tmA t, iv n, iv q] (tmA (tmkT (t.N * n) (t.D * q))) := by
 refine xV func308 ntmps308 (fun g w d => ?_);refine gc (zcJ (t.N * n) (t.D * q) (by omega) (by omega)) ?_;refine k7 (.one (.cellA rfl rfl rfl rfl ty83 (xR ?_)));all_goals rfl
def zc8 (m : Mn) (hm : ckM m = 0) (v : Int) (T : 1 <= v) (Q : v <= 8) : Fn prog 273 [mnA m, iv v] (tmA (durT m v)) := by
 induction hn : (5 - v).toNat using Nat.strongRecOn generalizing v
 rename_i n ih;have hf := zeT hm T Q;have J := zaj hf.2.2.1;refine xV func273 ntmps273 (fun g w d => ?_);refine gc (zH hm T Q) ?_;refine yM (zd2 hm) ?_;iterate 2 refine ya ?_
 refine yy ?_;apply yg;apply xS;apply ye;iterate 3 refine ya ?_
 refine xX 3 ?_;refine gq ?_;refine kK (yX m v) ?_;iterate 2 refine xW ?_
 refine gf ?_ ?_<;>intro Z
 ·have V := zuN hm T Q Z;refine gc (zce (yp m v) 2 3 (by omega) (by omega)) ?_;refine k7 (.one (.cellA rfl rfl rfl rfl ty83 (xR ?_)));all_goals exact zE V
 refine gd ?_ ?_<;>intro U
 ·have V := zlE (zle hm Z.1) U;refine gq ?_;refine k7 (.one (.cellA rfl rfl rfl rfl ty83 (xR ?_)));all_goals exact zE V
 have V := zuO hm T (zle hm Z.1) U (by omega);have N := zeT hm (show 1 <= v + 1 by omega) (by omega);have I := zaj N.2.2.2.1;refine gq ?_;refine yM (ih (5 - (v + 1)).toNat (by omega) (v + 1) (by omega) (by omega) rfl) ?_;refine gc (zce (durT m (v + 1)) 2 1 (by omega) (by omega)) ?_;refine k7 (.one (.cellA rfl rfl rfl rfl ty83 (xR ?_)));all_goals exact zE V
def zf1 (m : Mn) (v : Int) : Fn prog 228 [mnA m, iv v] (.tup [tmA (if ckMV m v = 0 then durT m v else tmZ), iv (ckMV m v)]) := by
 refine xV func228 ntmps228 (fun g w d => ?_);refine gc (zj m) ?_;refine gd ?_ ?_<;>intro Z
 ·have hE : ckMV m v = ckM m := by unfold ckMV ckM at *; split <;> simp_all
  refine gq ?_;refine yx ty83 ?_ ?_;all_goals (first | exact zE hE | (rw [hE, j4 rfl]; done) | (rw [hE, j4 rfl]; rfl) | (rw [hE, j3 Z]; rfl))
 apply yl;apply yg;apply ye;iterate 2 refine ya ?_
 refine xX 2 ?_;refine ym ?_;iterate 2 refine xW ?_
 refine gf ?_ ?_<;>intro V
 ·have hE : ckMV m v = 2 := by unfold ckM at Z; unfold ckMV; split at Z <;> simp_all; omega
  refine gq ?_;refine yx ty83 ?_ ?_;all_goals (first | exact zE hE | (rw [hE, j4 rfl]; done) | (rw [hE, j4 rfl]; rfl) | (rw [hE, j3 Z]; rfl))
 have hE : ckMV m v = 0 := by unfold ckM at Z; unfold ckMV; split at Z <;> simp_all <;> omega
 refine gc (zc8 m Z v (by omega) (by omega)) ?_;refine yx ty83 ?_ ?_;all_goals (first | exact zE hE | (rw [hE, j4 rfl]; done) | (rw [hE, j4 rfl]; rfl) | (rw [hE, j3 Z]; rfl))
def za8 (s : Sg) : Fn prog 252 [sgA s] (.bool (clr s)) := by
 refine xV func252 ntmps252 (fun g w d => ?_);apply ye;refine zF ?_;refine ya ?_;apply yE;iterate 3 refine ya ?_
 refine xX 3 ?_;refine ym ?_;iterate 2 refine xW ?_
 refine ge ?_;all_goals rfl
def zv (s : Sg) : Fn prog 285 [sgA s] (.bool (clr s)) := by
 refine xV func285 ntmps285 (fun g w d => ?_);apply ye;refine zF ?_;refine ya ?_;apply yE;iterate 3 refine ya ?_
 refine xX 3 ?_;refine ym ?_;iterate 2 refine xW ?_
 refine ge ?_;all_goals rfl
def zf2 (l : List Sg) (hl : l.length <= 4000000000) (i b : Int) (T : b = 1 \/ b = -1) (h0 : -2 <= i) (Q : i <= (l.length : Int) + 2) (N : b = -1 -> i <= (l.length : Int) + 1) : Fn prog 345 [sgsA l, iv i, iv b] (.bool (frB (zc7 l b i))) := by
 refine xV func345 ntmps345 (fun g w d => ?_);refine gq ?_;refine zdW (ι := Nat × Int) (fun (p : Nat × Int) => [(0, sgsA l), (1, iv p.2), (2, iv b)]) (fun (p : Nat × Int) => []) (fun (p : Nat × Int) => zc6 l b (l.length + 2) i = zc6 l b p.1 p.2 /\ ((b = 1 /\ (l.length : Int) - p.2 <= (p.1 : Int)) \/ (b = -1 /\ p.2 + 1 <= (p.1 : Int))) /\ -3 <= p.2 /\ p.2 <= (l.length : Int) + 3) (fun (p : Nat × Int) => p.1) (l.length + 2, i) (fun p U => ?_) (hJ := by exact ⟨rfl, by dsimp only; omega, by dsimp only; omega, by dsimp only; omega⟩);obtain ⟨n, j⟩ := p;obtain ⟨k1, k2, k3, k4⟩ := U;dsimp only at *
 apply yg;apply ye;iterate 2 refine ya ?_
 refine xX 2 ?_;refine ym ?_;iterate 4 refine xW ?_
 refine gf ?_ ?_<;>intro Z
 ·refine gd ?_ ?_<;>intro V
  ·refine gc (za8 _) ?_;all_goals (unfold zc7; rw [k1, zjx Z V (by omega)]; rfl)
  refine gq ?_;refine yw ((n - 1, j + b)) (hJ := by exact ⟨by rw [k1, zlf Z V (by omega)], by dsimp only; omega, by dsimp only; omega, by dsimp only; omega⟩) (hm := by dsimp only; omega)
 ·refine gq ?_;all_goals (unfold zc7; rw [k1, zjw (by omega)]; rfl)
def zcx (l : List Sg) (hl : l.length <= 4000000000) (i b : Int) (Q : b = 1 \/ b = -1) (h0 : -2 <= i) (N : i <= (l.length : Int) + 2) (J : b = -1 -> i <= (l.length : Int) + 1) : Fn prog 339 [sgsA l, iv i, iv b] (.tup [sgA (zmX (zc7 l b i)), .bool (zc7 l b i).isSome]) := by
 refine xV func339 ntmps339 (fun g w d => ?_);refine gq ?_;refine zdW (ι := Nat × Int) (fun (p : Nat × Int) => [(0, sgsA l), (1, iv p.2), (2, iv b), (6, .ptr 6 0 0 0)]) (fun (p : Nat × Int) => [(6, .box (sgE sgZ0) 90)]) (fun (p : Nat × Int) => zc6 l b (l.length + 2) i = zc6 l b p.1 p.2 /\ ((b = 1 /\ (l.length : Int) - p.2 <= (p.1 : Int)) \/ (b = -1 /\ p.2 + 1 <= (p.1 : Int))) /\ -3 <= p.2 /\ p.2 <= (l.length : Int) + 3) (fun (p : Nat × Int) => p.1) (l.length + 2, i) (fun p T => ?_) (hJ := by exact ⟨rfl, by dsimp only; omega, by dsimp only; omega, by dsimp only; omega⟩);obtain ⟨n, j⟩ := p;obtain ⟨k1, k2, k3, k4⟩ := T;dsimp only at *
 apply yg;apply ye;iterate 2 refine ya ?_
 refine xX 2 ?_;refine ym ?_;iterate 4 refine xW ?_
 refine gf ?_ ?_<;>intro Z
 ·refine gd ?_ ?_<;>intro V
  ·have U : zc7 l b i = some (l.getD j.toNat default) := by unfold zc7; rw [k1, zjx Z V (by omega)]
   refine gq ?_;refine yx ty90 ?_ ?_;all_goals exact zE U
  refine gq ?_;refine yw ((n - 1, j + b)) (hJ := by exact ⟨by rw [k1, zlf Z V (by omega)], by dsimp only; omega, by dsimp only; omega, by dsimp only; omega⟩) (hm := by dsimp only; omega)
 ·have U : zc7 l b i = none := by unfold zc7; rw [k1, zjw (by omega)]
  refine gq ?_;refine yx ty90 ?_ ?_;all_goals exact zE U
end Go.Rse
