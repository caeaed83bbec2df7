/-
  Walks.
-/
import Derived.Test.YtbopkhoalndflaaGreatDoorVJWri6
set_option linter.all false
namespace Go.Rse
open Go Go.Proofs Go.RowKit Go.Proofs.Tryz
section
variable {P : Program} {C : Ctx} {st : St} {ty : TypeId}
end
attribute [local irreducible] Pur yu yq Ex X Fn Imp LeV LeB FnO It yD
attribute [local irreducible] yp sumE sumV mMk
end Go.Rse
namespace Go.Rse
open Go Go.Proofs Go.Proofs.Tryz
attribute [local irreducible] Pur yu yq Ex X Fn Imp LeV LeB FnO It yD
attribute [local irreducible] yp durT mulV mulE subV subE
end Go.Rse
namespace Go.Rse
end Go.Rse
namespace Go.Rse
open Go Go.Proofs Go.Sort Go.Proofs.Tryz
def ltT (s t : Tm) : Prop := s.N * t.D < t.N * s.D
instance (s t : Tm) : Decidable (ltT s t) := inferInstanceAs (Decidable (_ < _))
def zrn (s : Tm) : ¬ ltT s s := by unfold ltT; omega
end Go.Rse
namespace Go.Rse
open Go Go.Proofs Go.Proofs.Tryz
attribute [local irreducible] Pur yu yq Ex X Fn Imp LeV LeB FnO It yD
attribute [local irreducible] yp durT mulV wdL
end Go.Rse
namespace Go.Rse
open Go Go.Proofs Go.RowKit Go.Proofs.Tryz
attribute [local irreducible] Pur yu yq Ex X Fn Imp LeV LeB FnO It yD
def ztX (l L : List Tm) : Bool := (l.all fun x => decide (ckT x = 0) && decide (x ∈ L)) && (L.all fun x => decide (x ∈ l)) && decide (L.Pairwise ltT)
attribute [local irreducible] wdL
end Go.Rse
namespace Go.Rse
open Go Go.Proofs Go.RowKit Go.Proofs.Tryz
attribute [local irreducible] Pur yu yq Ex X Fn Imp LeV LeB FnO It yD
def zcy (X : List Sp) (s : Sp) (t : Tm) (L : List Tm) (q : Nat) : List Sp := if t ∈ L.take q then X ++ [s] else X
def zuZ (X : List Sp) (s : Sp) (t : Tm) (L : List Tm) : X = zcy X s t L 0 := by simp [zcy]
def zpe {X : List Sp} {s : Sp} {t : Tm} {L : List Tm} {q : Nat} {u : Tm} (h : L[q]? = some u) (e : u = t) (T : L.Pairwise ltT) : zcy X s t L q ++ [s] = zcy X s t L (q + 1) := by
 subst e
 have Q : ¬ u ∈ L.take q := fun hm => by
  obtain ⟨i, hi⟩ := jP.1 hm;rw [w5] at hi;split at hi
  ·rename_i Z;have V := j1.1 hi;have U := j1.1 h;have := uT.1 T i q V.1 U.1 Z;rw [V.2, U.2] at this;exact zrn _ this
  ·simp at hi
 simp_all [zcy, jE]
def zro {X : List Sp} {s : Sp} {t : Tm} {L : List Tm} {q : Nat} {u : Tm} (h : L[q]? = some u) (e : ¬ u = t) : zcy X s t L q = zcy X s t L (q + 1) := by
 grind [zcy, List.take_add_one]
def zpf (X : List Sp) (s : Sp) (t : Tm) (L : List Tm) (q : Nat) : (zcy X s t L q).length <= X.length + 1 := by
 grind [zcy]
def zpg {m : Mn} {v : Int} {t : Tm} {i : Nat} {L : List Tm} (Z : ∀ x, x ∈ L ↔ x ∈ wdL m v (1 + (i : Int)).toNat) (X : List Sp) : zcy (X ++ alI m t v (1 + i)) (spOf v (1 + (i : Int))) t L L.length = X ++ alI m t v (1 + (i + 1)) := by
 grind [zcy, znt, zmz]
attribute [local irreducible] yp durT mulV wdL allE bthE alO alI mMk gI zcy
end Go.Rse
namespace Go.Rse
open Go Go.Proofs Go.Proofs.Tryz
attribute [local irreducible] Pur yu yq Ex X Fn Imp LeV LeB FnO It yD
def inA (l : List Tm) (t : Tm) : Nat := l.findIdx fun u => !decide (cmpV u t < 0)
def insT (l : List Tm) (t : Tm) : List Tm := if l[inA l t]? = some t then l else l.take (inA l t) ++ [t] ++ l.drop (inA l t)
def zu0 (l : List Tm) (t : Tm) : inA l t <= l.length := List.findIdx_le_length
def zph {l : List Tm} {t : Tm} {k : Nat} (h : ∀ i u, i < k -> l[i]? = some u -> cmpV u t < 0) (Q : k <= l.length) (U : k = l.length \/ ∃ u, l[k]? = some u /\ ¬ cmpV u t < 0) : inA l t = k := by
 unfold inA;rcases U with rfl | ⟨u, V, N⟩
 ·refine u8.2 fun x hx => ?_
  obtain ⟨i, hi⟩ := jP.1 hx;have := h i x (j1.1 hi).1 hi;simp [this]
 ·have Z := (j1.1 V).1;refine (List.findIdx_eq Z).2 ⟨?_, fun j T => ?_⟩
  ·rw [(j1.1 V).2]; simp; omega
  ·have := h j _ T (lgg (by omega));simp [this]
def zpi (l : List Tm) (t : Tm) : (insT l t).length <= l.length + 1 := by
 have := zu0 l t;unfold insT; split <;> simp <;> omega
attribute [local irreducible] cmpV
def zcz (v y : Int) : Fn prog 175 [iv v, iv y] (spA (spOf v y)) := by
 refine xV func175 ntmps175 (fun g w d => ?_);apply ye;refine zh ?_;apply yE;iterate 5 refine ya ?_
 refine xX 5 ?_;refine ym ?_;iterate 2 refine xW ?_
 iterate 2 refine ym ?_
 iterate 2 refine xW ?_
 iterate 4 refine ym ?_
 iterate 2 refine xW ?_
 refine ge ?_;refine k7 (.one (.cellA rfl rfl rfl rfl zuC (xR ?_)));all_goals rfl
def zcA (a b : Tm) : Fn prog 276 [tmA a, tmA b] (.bool (decide (cmpV a b < 0))) := by
 refine xV func276 ntmps276 (fun g w d => ?_);refine gc (zbM a b) ?_;all_goals exact zR
def zfB (m : Mn) (t : Tm) : Fn prog 173 [mnA m, tmA t] (iv (bthE m t)) := by
 refine xV func173 ntmps173 (fun g w d => ?_);refine gc (zj m) ?_;refine gd ?_ ?_<;>intro Z
 ·refine gc (zJ t) ?_;all_goals (unfold bthE; rw [j4 Z])
 ·refine gq ?_;all_goals (unfold bthE; rw [j3 Z])
def zaH (t : Tm) (n q : Int) (h : -9223372036854775808 <= t.N * n /\ t.N * n <= 9223372036854775807) (Z : -9223372036854775808 <= t.D * q /\ t.D * q <= 9223372036854775807) : Fn prog 229 [tmA t, iv n, iv q] (tmsA [tmkT (t.N * n) (t.D * q)]) := by
 refine xV func229 ntmps229 (fun g w d => ?_);refine gc (zcJ (t.N * n) (t.D * q) (by omega) (by omega)) ?_;refine yz tmE [tmkT (t.N * n) (t.D * q)] ?_;refine yh ?_;refine xU ?_;refine xQ (xP (k := 22) rfl) ?_;refine gq ?_;all_goals rfl
set_option maxHeartbeats 2000000 in
def zef (l : List Tm) (t : Tm) (hl : l.length <= 100000) : Fn prog 275 [tmsA l, tmA t] (tmsA (insT l t)) := by
 refine xV func275 ntmps275 (fun g w d => ?_);apply ye;refine zF ?_;refine ya ?_;apply yE;refine yh ?_;apply yg;apply xS;refine zX (fun k => [(0, tmsA l), (3, .ptr 3 0 0 0), (5, iv (k : Int))]) (fun k => [(3, .box (tmE t) 83)]) (fun k => k <= l.length /\ ∀ i u, i < k -> l[i]? = some u -> cmpV u t < 0) l.length (fun k G => ?_) (hJ := by exact ⟨by omega, fun i u h => absurd h (wN i)⟩) (h0 := yd);obtain ⟨T, Z⟩ := G
 have hv : k < l.length -> l[k]? = some (l.getD (k : Int).toNat default) := fun h => by
  rw [wJ, jA, lgg h]; rfl
 refine gq ?_;refine yW [6,7,8,9,10,11,12,13,14,15,16,17] [0,0,2,7,15,31,31,127,255,31,1023,2047] mo ?_;iterate 5 refine yb ?_
 iterate 5 refine k6 ?_
 refine kJ (zcA (l.getD (k : Int).toNat default) t) ?_;refine yb ?_;refine yA ?_;refine gd ?_ ?_<;>intro Q
 ·refine gq ?_
  refine yw (k + 1) (hJ := by
   refine ⟨by omega, fun i u hi N => ?_⟩;rcases jZ.1 hi with h | h
   ·exact Z i u h N
   ·subst h; rw [hv (by omega)] at N; injection N with N; subst N; exact Q.2)
 ·have J : inA l t = k := by
   by_cases V : k < l.length
   ·exact zph Z T (.inr ⟨_, hv V, by rcases Q with h | h; omega; omega⟩)
   ·exact zph Z T (.inl (by omega))
  refine gq ?_;refine yW [20,21,22,23,24,25,26,27,28,29,30,31] [0,0,2,7,15,31,31,127,255,31,1023,2047] mo ?_;iterate 5 refine yb ?_
  iterate 6 refine k6 ?_
  refine yb ?_;refine yA ?_;refine gd ?_ ?_<;>intro I
  ·have H : l = insT l t := by unfold insT; rw [J, hv (by omega), j4 (by rw [I.2])]
   refine gq ?_;all_goals exact j5 tmsA H
  have H : [] ++ l.take (k : Int).toNat ++ [t] ++ l.drop (k : Int).toNat = insT l t := by
   unfold insT;rw [J, wJ, j3 (fun e => ?_)]; simp;have V := (j1.1 e).1;rw [hv V] at e; injection e with e;rcases I with h | h; omega; exact h e
  refine gq ?_;refine kP [⟨1, 34, tmsA l, []⟩, ⟨2, 35, iv (k : Int), []⟩, ⟨3, 36, tmsA (l.take (k : Int).toNat), [2, 1]⟩, ⟨5, 38, tmA t, []⟩, ⟨6, 39, tmsA [t], [5]⟩, ⟨8, 41, tmsA l, []⟩, ⟨9, 42, iv (k : Int), []⟩, ⟨10, 43, tmsA (l.drop (k : Int).toNat), [9, 8]⟩] [(0, []), (4, [2, 1, 3, 0]), (7, [2, 1, 5, 3, 0, 6, 4]), (11, [2, 1, 5, 3, 0, 9, 8, 6, 4, 10, 7]), (12, [10, 9, 8, 7, 6, 5, 4, 3, 2, 1, 0, 11])] (fun j => match j with | 0 => ⟨[(0, tmsA l), (3, .ptr 3 0 0 0), (5, iv (k : Int))], [(3, .box (tmE t) 83)]⟩ | 1 => ⟨[(0, tmsA l), (3, .ptr 3 0 0 0), (5, iv (k : Int)), (33, .own 33)], [(3, .box (tmE t) 83), (33, .row tmE ([]) 83 2)]⟩ | 2 => ⟨[(0, tmsA l), (3, .ptr 3 0 0 0), (5, iv (k : Int)), (37, .own 33)], [(3, .box (tmE t) 83), (33, .row tmE ([] ++ l.take (k : Int).toNat) 83 2)]⟩ | 3 => ⟨[(0, tmsA l), (3, .ptr 3 0 0 0), (5, iv (k : Int)), (40, .own 33)], [(3, .box (tmE t) 83), (33, .row tmE ([] ++ l.take (k : Int).toNat ++ [t]) 83 2)]⟩ | 4 => ⟨[(0, tmsA l), (3, .ptr 3 0 0 0), (5, iv (k : Int)), (44, .own 33)], [(3, .box (tmE t) 83), (33, .row tmE ([] ++ l.take (k : Int).toNat ++ [t] ++ l.drop (k : Int).toNat) 83 2)]⟩ | _ => ⟨[(0, tmsA l), (3, .ptr 3 0 0 0), (5, iv (k : Int)), (4, .own 33)], [(3, .box (tmE t) 83), (33, .row tmE ([] ++ l.take (k : Int).toNat ++ [t] ++ l.drop (k : Int).toNat) 83 2)]⟩) mo (by kernel_rfl) (zl (yd)) (fun j E => ?_) (fun j c U β hβ => ?_) ?_
  ·rcases j with _ | _ | _ | _ | _ | _ | j
   ·iterate 2 refine ⟨.inr ⟨_, rfl, rfl, rfl, rfl, xO yG⟩, ?_⟩
    first
     | refine ⟨.inr ⟨_, rfl, rfl, rfl, rfl, xO (zcs rfl rfl rfl sl50 ty83 (by omega) (by omega))⟩, ?_⟩
     | refine ⟨.inr ⟨_, rfl, rfl, rfl, rfl, xO (zde rfl rfl sl50 ty83 (fun _ => rfl) (by omega) (by omega))⟩, ?_⟩
    refine ⟨.inr ⟨_, rfl, rfl, rfl, rfl, xO yG⟩, ?_⟩;refine ⟨.inr ⟨_, rfl, rfl, rfl, rfl, yo (enc := tmE) (l := [t]) sl50 ty83 ze83 (by decide) rfl rfl rfl rfl (by decide) (by decide) (fun _ => rfl) rfl⟩, ?_⟩;iterate 2 refine ⟨.inr ⟨_, rfl, rfl, rfl, rfl, xO yG⟩, ?_⟩
    first
     | refine ⟨.inr ⟨_, rfl, rfl, rfl, rfl, xO (zO rfl rfl rfl sl50 ty83 (by omega) (by omega))⟩, ?_⟩
     | refine ⟨.inr ⟨_, rfl, rfl, rfl, rfl, xO (zar rfl rfl sl50 ty83 (fun _ => rfl) (by omega) (by omega))⟩, ?_⟩
    exact True.intro
   ·iterate 2 refine ⟨.inr ⟨_, rfl, rfl, rfl, rfl, xO yG⟩, ?_⟩
    first
     | refine ⟨.inr ⟨_, rfl, rfl, rfl, rfl, xO (zcs rfl rfl rfl sl50 ty83 (by omega) (by omega))⟩, ?_⟩
     | refine ⟨.inr ⟨_, rfl, rfl, rfl, rfl, xO (zde rfl rfl sl50 ty83 (fun _ => rfl) (by omega) (by omega))⟩, ?_⟩
    refine ⟨.inr ⟨_, rfl, rfl, rfl, rfl, xO yG⟩, ?_⟩;refine ⟨.inr ⟨_, rfl, rfl, rfl, rfl, yo (enc := tmE) (l := [t]) sl50 ty83 ze83 (by decide) rfl rfl rfl rfl (by decide) (by decide) (fun _ => rfl) rfl⟩, ?_⟩;iterate 2 refine ⟨.inr ⟨_, rfl, rfl, rfl, rfl, xO yG⟩, ?_⟩
    first
     | refine ⟨.inr ⟨_, rfl, rfl, rfl, rfl, xO (zO rfl rfl rfl sl50 ty83 (by omega) (by omega))⟩, ?_⟩
     | refine ⟨.inr ⟨_, rfl, rfl, rfl, rfl, xO (zar rfl rfl sl50 ty83 (fun _ => rfl) (by omega) (by omega))⟩, ?_⟩
    exact True.intro
   ·(iterate 3 refine ⟨.inl rfl, ?_⟩);refine ⟨.inr ⟨_, rfl, rfl, rfl, rfl, xO yG⟩, ?_⟩;refine ⟨.inr ⟨_, rfl, rfl, rfl, rfl, yo (enc := tmE) (l := [t]) sl50 ty83 ze83 (by decide) rfl rfl rfl rfl (by decide) (by decide) (fun _ => rfl) rfl⟩, ?_⟩;iterate 2 refine ⟨.inr ⟨_, rfl, rfl, rfl, rfl, xO yG⟩, ?_⟩
    first
     | refine ⟨.inr ⟨_, rfl, rfl, rfl, rfl, xO (zO rfl rfl rfl sl50 ty83 (by omega) (by omega))⟩, ?_⟩
     | refine ⟨.inr ⟨_, rfl, rfl, rfl, rfl, xO (zar rfl rfl sl50 ty83 (fun _ => rfl) (by omega) (by omega))⟩, ?_⟩
    exact True.intro
   ·(iterate 5 refine ⟨.inl rfl, ?_⟩);iterate 2 refine ⟨.inr ⟨_, rfl, rfl, rfl, rfl, xO yG⟩, ?_⟩
    first
     | refine ⟨.inr ⟨_, rfl, rfl, rfl, rfl, xO (zO rfl rfl rfl sl50 ty83 (by omega) (by omega))⟩, ?_⟩
     | refine ⟨.inr ⟨_, rfl, rfl, rfl, rfl, xO (zar rfl rfl sl50 ty83 (fun _ => rfl) (by omega) (by omega))⟩, ?_⟩
    exact True.intro
   ·exact yC
   ·exact yC
   ·exact absurd (show j + 6 <= 5 from E) (by omega)
  ·rcases j with _ | _ | _ | _ | _ | j
   ·obtain rfl : (0, []) = c := by injection U
    refine yQ rfl (yV (st0 := ⟨[(34, .ifb (β 1) (tmsA l)), (35, .ifb (β 2) (iv (k : Int))), (36, .ifb (β 3) (tmsA (l.take (k : Int).toNat))), (38, .ifb (β 5) (tmA t)), (39, .ifb (β 6) (tmsA [t])), (41, .ifb (β 8) (tmsA l)), (42, .ifb (β 9) (iv (k : Int))), (43, .ifb (β 10) (tmsA (l.drop (k : Int).toNat))), (0, tmsA l), (3, .ptr 3 0 0 0), (5, iv (k : Int))], [(3, .box (tmE t) 83)]⟩) (yK) ?_);refine yq.imp (yP (zM (k := 33) (enc := tmE) (l := ([] : List Tm)) sl50 ty83 ze83 (by decide) rfl rfl rfl rfl (by decide) (by decide) (fun _ => rfl) rfl) rfl rfl) (yK)
   ·obtain rfl : (4, [2, 1, 3, 0]) = c := by injection U
    refine yQ rfl (yV (st0 := ⟨[(34, tmsA l), (35, iv (k : Int)), (36, tmsA (l.take (k : Int).toNat)), (38, .ifb (β 5) (tmA t)), (39, .ifb (β 6) (tmsA [t])), (41, .ifb (β 8) (tmsA l)), (42, .ifb (β 9) (iv (k : Int))), (43, .ifb (β 10) (tmsA (l.drop (k : Int).toNat))), (0, tmsA l), (3, .ptr 3 0 0 0), (5, iv (k : Int)), (33, .own 33)], [(3, .box (tmE t) 83), (33, .row tmE ([]) 83 2)]⟩) (yK) ?_);refine yq.imp (zB rfl rfl rfl SlK.h TiK.h (by decide) (by decide) (fun _ => rfl) (fun _ => rfl) (by first | omega | (simp; done) | (simp; omega) | (simp_all; omega)) rfl) (yK)
   ·obtain rfl : (7, [2, 1, 5, 3, 0, 6, 4]) = c := by injection U
    refine yQ rfl (yV (st0 := ⟨[(34, tmsA l), (35, iv (k : Int)), (36, tmsA (l.take (k : Int).toNat)), (38, tmA t), (39, tmsA [t]), (41, .ifb (β 8) (tmsA l)), (42, .ifb (β 9) (iv (k : Int))), (43, .ifb (β 10) (tmsA (l.drop (k : Int).toNat))), (0, tmsA l), (3, .ptr 3 0 0 0), (5, iv (k : Int)), (37, .own 33)], [(3, .box (tmE t) 83), (33, .row tmE ([] ++ l.take (k : Int).toNat) 83 2)]⟩) (yK) ?_);refine yq.imp (zB rfl rfl rfl SlK.h TiK.h (by decide) (by decide) (fun _ => rfl) (fun _ => rfl) (by first | omega | (simp; done) | (simp; omega) | (simp_all; omega)) rfl) (yK)
   ·obtain rfl : (11, [2, 1, 5, 3, 0, 9, 8, 6, 4, 10, 7]) = c := by injection U
    refine yQ rfl (yV (st0 := ⟨[(34, tmsA l), (35, iv (k : Int)), (36, tmsA (l.take (k : Int).toNat)), (38, tmA t), (39, tmsA [t]), (41, tmsA l), (42, iv (k : Int)), (43, tmsA (l.drop (k : Int).toNat)), (0, tmsA l), (3, .ptr 3 0 0 0), (5, iv (k : Int)), (40, .own 33)], [(3, .box (tmE t) 83), (33, .row tmE ([] ++ l.take (k : Int).toNat ++ [t]) 83 2)]⟩) (yK) ?_);refine yq.imp (zB rfl rfl rfl SlK.h TiK.h (by decide) (by decide) (fun _ => rfl) (fun _ => rfl) (by first | omega | (simp; done) | (simp; omega) | (simp_all; omega)) rfl) (yK)
   ·obtain rfl : (12, [10, 9, 8, 7, 6, 5, 4, 3, 2, 1, 0, 11]) = c := by injection U
    refine yQ rfl (yV (st0 := ⟨[(34, tmsA l), (35, iv (k : Int)), (36, tmsA (l.take (k : Int).toNat)), (38, tmA t), (39, tmsA [t]), (41, tmsA l), (42, iv (k : Int)), (43, tmsA (l.drop (k : Int).toNat)), (0, tmsA l), (3, .ptr 3 0 0 0), (5, iv (k : Int)), (44, .own 33)], [(3, .box (tmE t) 83), (33, .row tmE ([] ++ l.take (k : Int).toNat ++ [t] ++ l.drop (k : Int).toNat) 83 2)]⟩) (yK) ?_);refine yq.imp (yP (xO (zb9 rfl)) rfl rfl) (yK)
   ·exact absurd U (by simp)
  refine xU ?_;refine xQ (xP (k := 33) rfl) ?_;refine gq ?_;all_goals exact j5 tmsA H
end Go.Rse
namespace Go.Rse
open Go Go.Proofs Go.Proofs.Tryz
attribute [local irreducible] Pur yu yq Ex X Fn Imp LeV LeB FnO It yD
def rlO (f : Tm -> List Tm) (g : Nat -> Tm) : Nat -> List Tm
 | 0 => []
 | j + 1 => (f (g j)).foldl insT (rlO f g j)
def rlM (m : Mn) (v k : Int) : Int := if m.p k = 3 then (if k = v then 1 else 2) else 0
def rlG (m : Mn) (v k : Int) (t : Tm) (j : Nat) : Bool := decide ((j : Int) <= rlM m v k) && decide (0 < (lsT m k t j).N)
def rlK (m : Mn) (k : Int) (t : Tm) (j : Nat) : Bool := decide (cmpV (yp m (k + 1)) (lsT m k t j) < 0)
def rlN (m : Mn) (v k : Int) (t : Tm) : Nat -> Nat -> Nat
 | 0, j => j
 | f + 1, j => if rlG m v k t j = true then (if rlK m k t j = true then rlN m v k t f (j + 1) else j + 1) else j
def rlL (m : Mn) (v : Int) : Nat -> Int -> Tm -> List Tm
 | 0, k, t => [t]
 | n + 1, k, t => rlO (rlL m v n (k + 1)) (lsT m k t) (rlN m v k t 3 0)
def zu1 (m : Mn) (v k : Int) : 0 <= rlM m v k /\ rlM m v k <= 2 := by
 unfold rlM; split
 ·split <;> omega
 ·omega
def ztY {m : Mn} {v k : Int} {t : Tm} : ∀ (j i f : Nat), i + f = 3 -> i <= j -> (∀ q, q < j -> rlG m v k t q = true /\ rlK m k t q = true) -> rlG m v k t j = false -> j <= 3 -> rlN m v k t f i = j
 | j, i, 0, h, T, Z, V, U => by unfold rlN; omega
 | j, i, f + 1, h, T, Z, V, U => by
  unfold rlN;rcases w6 i j with hl | hl
  ·rw [j4 (Z i hl).1, j4 (Z i hl).2];exact ztY j (i + 1) f (by omega) (by omega) Z V U
  ·have : i = j := by omega
   subst this;rw [j3 (by rw [V]; simp)]
def ztZ {m : Mn} {v k : Int} {t : Tm} : ∀ (j i f : Nat), i + f = 3 -> i <= j -> (∀ q, q < j -> rlG m v k t q = true /\ rlK m k t q = true) -> rlG m v k t j = true -> rlK m k t j = false -> j <= 2 -> rlN m v k t f i = j + 1
 | j, i, 0, h, Q, Z, V, U, T => by omega
 | j, i, f + 1, h, Q, Z, V, U, T => by
  unfold rlN;rcases w6 i j with hl | hl
  ·rw [j4 (Z i hl).1, j4 (Z i hl).2];exact ztZ j (i + 1) f (by omega) (by omega) Z V U T
  ·have : i = j := by omega
   subst this;rw [j4 V, j3 (by rw [U]; simp)]
def zgS : ∀ (l out : List Tm), (l.foldl insT out).length <= out.length + l.length
 | [], out => by simp
 | t :: r, out => by
  have Z := zgS r (insT out t);have V := zpi out t;simp only [vS, wB]; omega
def zko {f : Tm -> List Tm} {g : Nat -> Tm} {B : Nat} (h : ∀ t, (f t).length <= B) : ∀ j, (rlO f g j).length <= j * B
 | 0 => by simp [rlO]
 | j + 1 => by
  have Z := zko (g := g) h j;have V := zgS (f (g j)) (rlO f g j);have U := h (g j);have T : (j + 1) * B = j * B + B := vC ..;unfold rlO; omega
def zpj (m : Mn) (v k : Int) (t : Tm) : ∀ f j, rlN m v k t f j <= j + f
 | 0, j => jC _
 | f + 1, j => by
  have := zpj m v k t f (j + 1);unfold rlN; split
  ·split <;> omega
  ·omega
def zhK (m : Mn) (v : Int) : ∀ n k t, (rlL m v n k t).length <= 3 ^ n
 | 0, k, t => by simp [rlL]
 | n + 1, k, t => by
  have Z := zko (g := lsT m k t) (zhK m v n (k + 1)) (rlN m v k t 3 0);have V := zpj m v k t 3 0;have U : 3 ^ (n + 1) = 3 * 3 ^ n := by rw [Nat.pow_succ, wT]
  have T : rlN m v k t 3 0 * 3 ^ n <= 3 * 3 ^ n := jS _ (by omega);unfold rlL; omega
def zox {l out : List Tm} {i : Nat} {u : Tm} (h : l[i]? = some u) : insT ((l.take i).foldl insT out) u = (l.take (i + 1)).foldl insT out := by
 rw [jE, h, List.foldl_append]; rfl
attribute [local irreducible] cmpV subV yp insT rlN rlL
set_option maxHeartbeats 4000000 in
def zfC (m : Mn) (hm : ckM m = 0) (v : Int) (h1 : 1 <= v) (n : Nat) (k : Int) (t : Tm) (hn : (5 - k).toNat = n) (x0 : 1 <= k) (w2 : k <= 8) : Fn prog 230 [mnA m, iv v, iv k, tmA t] (tmsA (rlL m v n k t)) := by
 induction n using Nat.strongRecOn generalizing k t
 rename_i n ih;refine xV func230 ntmps230 (fun g w d => ?_);refine gd ?_ ?_<;>intro v9
 ·have xT : n = 0 := by omega
  subst xT;have hV : [t] = rlL m v 0 k t := by unfold rlL; rfl
  refine gq ?_;refine yz tmE [t] ?_;refine yh ?_;refine xU ?_;refine xQ (xP (k := 19) rfl) ?_;refine gq ?_;all_goals (first | exact j5 tmsA hV | rfl)
 obtain ⟨q, rfl⟩ : ∃ q, n = q + 1 := ⟨n - 1, by omega⟩;have v8 := zu1 m v k;apply yl;apply ye;refine yh ?_;refine zb0 ⟨[(1, iv v), (2, iv k), (4, .ptr 4 0 0 0), (7, .ptr 7 0 0 0), (9, iv (rlM m v k))], [(4, .box (mnE m) 23), (7, .box (tmE t) 83)]⟩ (fun U => ?_) ?_
 ·refine gc (yX m k) ?_;refine gd ?_ ?_<;>intro T
  ·have H : (0 : Int) = rlM m v k := by unfold rlM; rw [j3 T]
   apply yi;refine yh ?_;exact xZ yk U
  ·refine gd ?_ ?_<;>intro G
   ·have H : (1 : Int) = rlM m v k := by unfold rlM; rw [j4 (by simpa using T), j4 G]
    apply yi;refine yh ?_;exact xZ yk U
   ·have H : (2 : Int) = rlM m v k := by unfold rlM; rw [j4 (by simpa using T), j3 G]
    apply yl;exact xZ yk U
 refine gq ?_;refine yM (zH hm (by omega) (by omega) : Fn _ _ [mnA m, iv (k + 1)] _) ?_;iterate 3 refine ya ?_
 refine zh ?_;refine xY ?_;refine ya ?_;apply yE;refine yh ?_;apply yg;apply ye;refine yh ?_;apply xS;have v5 : [] = rlO (rlL m v q (k + 1)) (lsT m k t) 0 := rfl;refine zX (fun j => [(1, iv v), (2, iv k), (4, .ptr 4 0 0 0), (7, .ptr 7 0 0 0), (9, iv (rlM m v k)), (10, .ptr 10 0 0 0), (12, tmsA (rlO (rlL m v q (k + 1)) (lsT m k t) j)), (13, iv (j : Int))]) (fun j => [(4, .box (mnE m) 23), (7, .box (tmE (lsT m k t j)) 83), (10, .box (tmE (yp m (k + 1))) 83)]) (fun j => j <= 3 /\ ∀ q, q < j -> rlG m v k t q = true /\ rlK m k t q = true) 3 (fun j hk => ?_) (hJ := by exact ⟨by omega, fun q h => absurd h (wN q)⟩);obtain ⟨E, hJ⟩ := hk;have v4 := zko (g := lsT m k t) (zhK m v q (k + 1)) j;apply yg;apply ye;iterate 3 refine ya ?_
 refine xX 3 ?_;refine ym ?_;iterate 3 refine xW ?_
 refine gf ?_ ?_<;>intro Q
 ·have V : rlG m v k t j = true := by unfold rlG; rw [jI Q.1, jI Q.2]; rfl
  have x4 : j <= 2 := by omega
  refine gq ?_;refine yM (ih q (by omega) (k + 1) (lsT m k t j) (by omega) (by omega) (by omega)) ?_;refine yh ?_;apply yg;apply ye;refine yh ?_;apply xS;obtain ⟨D, hD⟩ : ∃ D, D = rlL m v q (k + 1) (lsT m k t j) := ⟨_, rfl⟩;have x3 := zhK m v q (k + 1) (lsT m k t j);have v3 : 3 ^ q <= 3 ^ 3 := uX (by decide) (by omega);have v1 : 3 ^ 3 = 27 := rfl;have v0 : j * 3 ^ q <= 3 * 3 ^ q := jS _ E;rw [← hD] at x3;have u3 := hD.symm;have x1 : rlO (rlL m v q (k + 1)) (lsT m k t) j = (D.take 0).foldl insT (rlO (rlL m v q (k + 1)) (lsT m k t) j) := by rw [vL]; rfl
  refine zq (fun i => [(1, iv v), (2, iv k), (4, .ptr 4 0 0 0), (7, .ptr 7 0 0 0), (9, iv (rlM m v k)), (10, .ptr 10 0 0 0), (12, tmsA ((D.take i).foldl insT (rlO (rlL m v q (k + 1)) (lsT m k t) j))), (13, iv (j : Int)), (14, tmsA D), (15, iv (i : Int))]) (fun i => [(4, .box (mnE m) 23), (7, .box (tmE (lsT m k t j)) 83), (10, .box (tmE (yp m (k + 1))) 83)]) D.length (fun i hk => ?_);refine gd ?_ ?_<;>intro u2
  ·obtain ⟨u, hu⟩ : ∃ u, D[i]? = some u := ⟨_, lgg (by omega)⟩;have u1 : D[(i : Int).toNat]? = some u := by simpa using hu
   have J := zox (out := rlO (rlL m v q (k + 1)) (lsT m k t) j) hu;have kZ := zgS (D.take i) (rlO (rlL m v q (k + 1)) (lsT m k t) j);have kY : (D.take i).length <= D.length := by rw [jM]; omega
   refine gc (zef ((D.take i).foldl insT (rlO (rlL m v q (k + 1)) (lsT m k t) j)) u (by omega)) ?_;refine yw (i + 1) (hI := yk)
  ·have x2 : i = D.length := by omega
   subst x2;have J : (D.take D.length).foldl insT (rlO (rlL m v q (k + 1)) (lsT m k t) j) = rlO (rlL m v q (k + 1)) (lsT m k t) (j + 1) := by rw [jH, hD]; rfl
   refine gc (zcA (yp m (k + 1)) (lsT m k t j)) ?_;refine gd ?_ ?_<;>intro kX
   ·have I : rlK m k t j = false := by unfold rlK; rw [j9 (by omega)]
    have Z : rlO (rlL m v q (k + 1)) (lsT m k t) (j + 1) = rlL m v (q + 1) k t := by
     conv => rhs; unfold rlL
     rw [ztZ j 0 3 rfl (wF _) hJ V I x4]
    refine gq ?_;all_goals (first | exact j5 tmsA Z | exact j5 tmsA (J.trans Z))
   have I : rlK m k t j = true := by unfold rlK; rw [jI (by omega)]
   refine gc (z6 (lsT m k t j) (yp m (k + 1))) ?_
   refine yw (j + 1) (hJ := by
    refine ⟨by omega, fun q h => ?_⟩;rcases jZ.1 h with h | h
    ·exact hJ q h
    ·subst h; exact ⟨V, I⟩) (hI := yk)
 ·have V : rlG m v k t j = false := by
   unfold rlG;rcases Q with h | h
   ·rw [j9 (by omega)]; rfl
   ·rw [j9 (show ¬ 0 < (lsT m k t j).N by omega)]; simp
  have Z : rlO (rlL m v q (k + 1)) (lsT m k t) j = rlL m v (q + 1) k t := by
   conv => rhs; unfold rlL
   rw [ztY j 0 3 rfl (wF _) hJ V E]
  refine gq ?_;all_goals (first | exact j5 tmsA Z | exact j5 tmsA (J.trans Z))
end Go.Rse
