/-
  Walks.
-/
import Derived.Test.YtbopkhoalndflaaGreatDoorVJLev1
set_option linter.all false
namespace Go.Rse
open Go Go.Proofs Go.Proofs.Tryz
section
attribute [local irreducible] Pur yu yq Ex X Fn Imp LeV LeB FnO It yD
def fsB : Nat -> Bool
 | 0 => true
 | _ + 1 => false
def lsB (k : Int) (l : List Ite) : Nat -> Bd
 | 0 => ⟨0, 0, false⟩
 | j + 1 => (bds k l).getD j default
def zig {k : Int} {l : List Ite} {j : Nat} {b : Bd} (h : (bds k l)[j]? = some b) : b = lsB k l (j + 1) := by
 show b = (bds k l).getD j default;rw [jA, h]; rfl
def zpx {k : Int} {l : List Ite} {j : Nat} (h : j < (bds k l).length) : (lsB k l (j + 1)).item < l.length := by
 have Z : (bds k l)[j]? = some (bds k l)[j] := lgg h;rw [← zig Z];have V := (zmp k l).1 _ (j6 Z);have := V.hi;rcases V.it with U | ⟨U, T, Q⟩ <;> omega
def zrG {k : Int} {l : List Ite} {j : Nat} (h : j + 1 < (bds k l).length) : sgs0 l ((bds k l).take (j + 1)) ++ [sg0 l (lsB k l (j + 1)) (lsB k l (j + 2))] = sgs0 l ((bds k l).take (j + 2)) := by
 have Z : (bds k l)[j]? = some (bds k l)[j] := lgg (by omega);have V : (bds k l)[j + 1]? = some (bds k l)[j + 1] := lgg h
 have e2 : (bds k l).take (j + 2) = ((bds k l).take j ++ [(bds k l)[j]]) ++ [(bds k l)[j + 1]] := by
  rw [jE, jE, Z, V]; rfl
 have e1 : (bds k l).take (j + 1) = (bds k l).take j ++ [(bds k l)[j]] := by rw [jE, Z]; rfl
 rw [e2, e1, zjT, ← zig Z, ← zig V]
def zvd {k : Int} {l : List Ite} : sgs0 l ((bds k l).take 0) = sgs0 l ((bds k l).take 1) := by
 cases bds k l with
 | nil => rfl
 | cons b r => rfl
def zpy (k : Int) (l : List Ite) (j : Nat) : (sgs0 l ((bds k l).take j)).length <= 2 * l.length + 2 := by
 have h := zeZ k l l.length;have Z := zeR k l;rw [zev, jM]; omega
def zve {k : Int} {l : List Ite} {j : Nat} (h : j < (bds k l).length) : ((lsB k l (j + 1)).fin = true -> j + 1 = (bds k l).length) /\ ((lsB k l (j + 1)).fin = false -> j + 1 < (bds k l).length) := by
 have Z : (bds k l)[j]? = some (bds k l)[j] := lgg h;rw [← zig Z];have := zrp Z;rw [this];constructor
 ·intro h; simpa using h
 ·intro h;have : ¬ j + 1 = (bds k l).length := by simpa using h
  omega
def zpz {k : Int} {l : List Ite} {j : Nat} (hf : fsB j = false) (h : j < (bds k l).length) : sgs0 l ((bds k l).take j) ++ [sg0 l (lsB k l j) (lsB k l (j + 1))] = sgs0 l ((bds k l).take (j + 1)) := by
 cases j with
 | zero => cases hf
 | succ i => exact zrG h
def zrH {k : Int} {l : List Ite} {j : Nat} (hf : fsB j = true) : sgs0 l ((bds k l).take j) = sgs0 l ((bds k l).take (j + 1)) := by
 cases j with
 | zero => exact zvd
 | succ i => cases hf
def zrI {k : Int} {l : List Ite} {j : Nat} (hf : fsB j = false) (h : j < (bds k l).length) : (lsB k l j).item < l.length := by
 cases j with
 | zero => cases hf
 | succ i => exact zpx (by omega)
attribute [local irreducible] bdK bds bdX sgs0 hdI
set_option maxHeartbeats 4000000 in
def zd9 (q : List Ite) (k : Int) (hl : q.length <= 1000000) : FnO prog 328 [.agg [itsA q], iv k] [] [] (.own 39) [(39, .row smE (sgs0 q (bds k q)) 317 7)] := by
 have x1 : fsB 0 = true := by unfold fsB; rfl
 have x0 : lsB k q 0 = ⟨0, 0, false⟩ := by unfold lsB; rfl
 have w2 : [] = sgs0 q ((bds k q).take 0) := by rw [vL]; unfold sgs0; rfl
 have v9 : sgs0 q ((bds k q).take (bdX k q).length) = sgs0 q (bds k q) := by rw [zm3, ← zeR, jH]
 refine kQ (ts := [(0, .agg [itsA q]), (1, iv k)]) (rv := [.tmp 4]) (n := 43) (cs := []) (by kernel_rfl) func328 rfl ntmps328 rfl rfl (by simp) rfl rfl rfl rfl (fun g w d vh => ?_);apply ye;refine zF ?_;refine ya ?_;apply yE;refine zh ?_;apply k9;apply yg;refine xZ (zbZ smE 317 7 5 39 311 rfl rfl) ?_;refine gc (zfD k q) ?_;refine X.range (sl := [2, 5, 6, 7]) (fun j => ([.ptr 2 0 0 0, .ptr 5 0 0 0, .ptr 6 0 0 0, .ptr 7 0 0 0], [(1000001, .hold vh []), (2, .box [itsA q] 332), (5, .box [.own 39] 311), (39, .row smE (sgs0 q ((bds k q).take j)) 317 7), (6, .box (bdE (lsB k q j)) 379), (7, .box [.bool (fsB j)] 4)])) (fun j => True) 900001 900002 rfl rfl (by decide) (fun j zs N => by obtain ⟨i, _, rfl⟩ := zkq N; rfl) (zeh k q (by omega)) trivial rfl rfl (by decide) (wF _) (by simp) (fun j zs N => by obtain ⟨i, _, rfl⟩ := zkq N; rfl) (fun _ => rfl) rfl rfl (fun l o us => yd) (trivial) (fun j zs N hJ l ready busy rb vs g w hb v8 => ?_) (fun hJ => ?_)
 ·have G := zkq N;obtain ⟨b, J, rfl⟩ := G;have E := zig J;subst E;have T : j < (bds k q).length := (j1.1 J).1;have v5 := zpy k q j;have V := zve T;have v4 : fsB (j + 1) = false := by unfold fsB; rfl
  apply yi;refine zh ?_;refine xY ?_;apply k9;refine ⟨rfl, rfl, ?_⟩;refine gd ?_ ?_<;>intro Q
  ·have I := zrI Q T;have H := zpx (k := k) (l := q) (j := j) T;have Z := zpz Q T;unfold sg0 bdF at Z;refine gd ?_ ?_<;>intro xT
   ·rw [j4 xT] at Z;refine gq ?_;refine yW [24,25,26,27,28,29,30,31,32,33,34,35,36,37] [0,0,2,0,0,0,48,0,0,496,0,1024,4094,8190,16383,32767] mo ?_;(iterate 6 refine yb ?_);refine yH (zaE q (lsB k q j) I) ?_;(iterate 2 refine yb ?_);refine yH (zaE q (lsB k q (j + 1)) H) ?_;(iterate 3 refine yb ?_);refine ChM.step rfl rfl rfl (zM (k := 37) (enc := smE) (l := [⟨(lsB k q j).next, (lsB k q (j + 1)).item, hdI q (lsB k q j), hdI q (lsB k q (j + 1)), (lsB k q (j + 1)).fin, ⟨0, 0⟩⟩]) zri zre zoq (by decide) rfl rfl rfl rfl (by decide) (by decide) (fun _ => rfl) rfl) rfl ?_;refine yA ?_;refine gd ?_ ?_<;>intro x4
    ·have U : (bds k q).take (j + 1) = bds k q := by rw [V.1 x4, jH]
     rw [U] at Z;apply k8;refine ⟨[.ptr 2 0 0 0, .ptr 5 0 0 0, .ptr 6 0 0 0, .ptr 7 0 0 0], [(1000001, .hold vh []), (5, .box [.own 39] 311), (39, .row smE (sgs0 q (bds k q)) 317 7)], yd, ?_⟩;apply ye;refine yL ?_;refine xU ?_;refine zn3.mk (ts := [(4, .own 39)]) (.inr rfl) (yd) (.one (.tmp rfl (xR rfl)))
    apply yl;refine ⟨[.ptr 2 0 0 0, .ptr 5 0 0 0, .ptr 6 0 0 0, .ptr 7 0 0 0], [(1000001, .hold vh []), (2, .box [itsA q] 332), (5, .box [.own 39] 311), (39, .row smE (sgs0 q ((bds k q).take (j + 1))) 317 7), (6, .box (bdE (lsB k q (j + 1))) 379), (7, .box [.bool (fsB (j + 1))] 4)], yd, rfl, trivial⟩
   ·rw [j3 (by omega)] at Z;apply yl;refine yW [24,25,26,27,28,29,30,31,32,33,34,35,36,37] [0,0,2,0,0,0,48,0,0,496,0,1024,4094,8190,16383,32767] mo ?_;(iterate 6 refine yb ?_);refine yH (zaE q (lsB k q j) I) ?_;(iterate 2 refine yb ?_);refine yH (zaE q (lsB k q (j + 1)) H) ?_;(iterate 3 refine yb ?_);refine ChM.step rfl rfl rfl (zM (k := 37) (enc := smE) (l := [⟨(lsB k q j).next, (lsB k q (j + 1)).next, hdI q (lsB k q j), hdI q (lsB k q (j + 1)), (lsB k q (j + 1)).fin, ⟨0, 0⟩⟩]) zri zre zoq (by decide) rfl rfl rfl rfl (by decide) (by decide) (fun _ => rfl) rfl) rfl ?_;refine yA ?_;refine gd ?_ ?_<;>intro x3
    ·have U : (bds k q).take (j + 1) = bds k q := by rw [V.1 x3, jH]
     rw [U] at Z;apply k8;refine ⟨[.ptr 2 0 0 0, .ptr 5 0 0 0, .ptr 6 0 0 0, .ptr 7 0 0 0], [(1000001, .hold vh []), (5, .box [.own 39] 311), (39, .row smE (sgs0 q (bds k q)) 317 7)], yd, ?_⟩;apply ye;refine yL ?_;refine xU ?_;refine zn3.mk (ts := [(4, .own 39)]) (.inr rfl) (yd) (.one (.tmp rfl (xR rfl)))
    apply yl;refine ⟨[.ptr 2 0 0 0, .ptr 5 0 0 0, .ptr 6 0 0 0, .ptr 7 0 0 0], [(1000001, .hold vh []), (2, .box [itsA q] 332), (5, .box [.own 39] 311), (39, .row smE (sgs0 q ((bds k q).take (j + 1))) 317 7), (6, .box (bdE (lsB k q (j + 1))) 379), (7, .box [.bool (fsB (j + 1))] 4)], yd, rfl, trivial⟩
  ·have Z := zrH (k := k) (l := q) Q;refine gd ?_ ?_<;>intro x2
   ·have U : (bds k q).take (j + 1) = bds k q := by rw [V.1 x2, jH]
    rw [U] at Z;apply k8;refine ⟨[.ptr 2 0 0 0, .ptr 5 0 0 0, .ptr 6 0 0 0, .ptr 7 0 0 0], [(1000001, .hold vh []), (5, .box [.own 39] 311), (39, .row smE (sgs0 q (bds k q)) 317 7)], yd, ?_⟩;apply ye;refine yL ?_;refine xU ?_;refine zn3.mk (ts := [(4, .own 39)]) (.inr rfl) (yd) (.one (.tmp rfl (xR rfl)))
   apply yl;refine ⟨[.ptr 2 0 0 0, .ptr 5 0 0 0, .ptr 6 0 0 0, .ptr 7 0 0 0], [(1000001, .hold vh []), (2, .box [itsA q] 332), (5, .box [.own 39] 311), (39, .row smE (sgs0 q ((bds k q).take (j + 1))) 317 7), (6, .box (bdE (lsB k q (j + 1))) 379), (7, .box [.bool (fsB (j + 1))] 4)], yd, rfl, trivial⟩
 apply ye;refine yL ?_;refine xU ?_;refine zn3.mk (ts := [(4, .own 39)]) (.inr rfl) (yd) (.one (.tmp rfl (xR rfl)))
end
section
attribute [local irreducible] Pur yu yq Ex X Fn Imp LeV LeB FnO It yD
def lesE (e h : Int) (t d : Tm) : Int := if e = 0 /\ 0 <= h then lsE t d else e
def lesT (e h : Int) (t d : Tm) : Tm := if e = 0 /\ 0 <= h then subV t d else t
theorem zrJ {t d : Tm} {h : Int} : (cn1 t h d).2 = lesE 0 h t d /\ ((cn1 t h d).2 = 0 -> (cn1 t h d).1 = lesT 0 h t d) := by
 grind [cn1, lesE, lesT]
def zAz {e h : Int} {t d : Tm} (he : ¬ e = 0) : lesE e h t d = e /\ lesT e h t d = t := by
 simp_all [lesE, lesT]
def zvf {l : List Ite} {s : Sgm} (h : (cnA l s).2 = 0) :
 (cnC l s).2 = lesE (lesE (cnA l s).2 s.Left (cnA l s).1 (itg l s.Left).After) s.Right (lesT (cnA l s).2 s.Left (cnA l s).1 (itg l s.Left).After) (itg l s.Right).Before ∧
 ((cnC l s).2 = 0 -> (cnC l s).1 = lesT (lesE (cnA l s).2 s.Left (cnA l s).1 (itg l s.Left).After) s.Right (lesT (cnA l s).2 s.Left (cnA l s).1 (itg l s.Left).After) (itg l s.Right).Before) := by
 grind [cnB, cnC, zrJ, lesE]
def zpA {u : Tm} {l : List Ite} {s : Sgm} (h : ¬ (cnA l s).2 = 0) : cnE u l s = (cnA l s).2 /\ cnV u l s = tmZ := by
 simp_all [cnB, cnC, cnE, cnV]
def zpB {u : Tm} {l : List Ite} {s : Sgm} (h : ¬ (cnC l s).2 = 0) : cnE u l s = (cnC l s).2 /\ cnV u l s = tmZ := by
 simp_all [cnE, cnV]
def zpC {u : Tm} {l : List Ite} {s : Sgm} (h : (cnC l s).2 = 0) : cnE u l s = divE (cnC l s).1 u /\ cnV u l s = divV (cnC l s).1 u := by
 simp_all [cnE, cnV]
def zxc {l : List Ite} {s : Sgm} (hl : ∀ x ∈ l, itF x = 0) : sumE (drL (itR l s)) = (cnA l s).2 /\ sumV (drL (itR l s)) = (cnA l s).1 := by
 have hf : ∀ L : List Tm, (∀ t ∈ L, ckT t = 0) -> yI L = 0 := by
  intro L
  induction L with
  | nil => intro _; rfl
  | cons t r ih => intro h; simp only [yI]; rw [j4 (h t (by simp))]; exact ih fun x hx => h x (u5 _ hx)
 have h0 : yI (drL (itR l s)) = 0 := hf _ fun t ht => by
  unfold drL itR at ht;obtain ⟨x, hx, rfl⟩ := jV.1 ht;exact (zg3 (hl x (List.mem_of_mem_drop (List.mem_of_mem_take hx)))).2.1
 simp_all [sumE, sumV, cnA]
def zpD {L : List Ite} {k : Nat} {x : Ite} (h : L[k]? = some x) : drL (L.take k) ++ [x.Dur] = drL (L.take (k + 1)) := by
 simp_all [drL, jE]
def zrK {l : List Ite} {s : Sgm} {k : Int} (hs : SgOk k l s) : ((itR l s).length : Int) = s.To - s.From := by
 unfold itR;have := hs.f0; have := hs.ft; have := hs.tl
 grind
def sgP (u : Tm) (l : List Ite) (L : List Sgm) (n : Nat) : List Sgm := (L.take n).map (segW u l) ++ L.drop n
def zxd (u : Tm) (l : List Ite) (L : List Sgm) : L = sgP u l L 0 := rfl
def zrL (u : Tm) (l : List Ite) (L : List Sgm) (n : Nat) : (sgP u l L n).length = L.length := by
 grind [sgP]
def zvg {u : Tm} {l : List Ite} {L : List Sgm} {n : Nat} {s : Sgm} (h : L[n]? = some s) : (sgP u l L n)[n]? = some s /\ (sgP u l L n).set n (segW u l s) = sgP u l L (n + 1) := by
 have Z := (j1.1 h).1;have hl : ((L.take n).map (segW u l)).length = n := by rw [jU, jM]; omega
 grind [sgP, List.set_append_right, List.drop_eq_getElem_cons]
theorem zrM (u : Tm) (l : List Ite) (L : List Sgm) : sgP u l L L.length = L.map (segW u l) := by
 simp [sgP]
def zpE {u : Tm} {l : List Ite} {s : Sgm} (h : ¬ cnE u l s = 0) : segR u l s = cnE u l s := by unfold segR; rw [j3 h]
attribute [local irreducible] sgP subV subE lsE lesE lesT cnA cnC divE divV sumE sumV
def zdM (x : Ite) : Fn prog 350 [itA x] (tmA x.After) := by
 refine xV func350 ntmps350 (fun g w d => ?_);refine gq ?_;refine k7 (.one (.cellA rfl rfl rfl rfl ty83 (xR ?_)));rfl
def zdN (x : Ite) : Fn prog 351 [itA x] (tmA x.Before) := by
 refine xV func351 ntmps351 (fun g w d => ?_);refine gq ?_;refine k7 (.one (.cellA rfl rfl rfl rfl ty83 (xR ?_)));rfl
def zbv (l : List Ite) (h e : Int) (t : Tm) (fp : FuncId) (d1 : Ite -> Tm) (hf : ∀ x, Fn prog fp [itA x] (tmA (d1 x))) (N : h < l.length) : FnO prog 349 [iv h, .fn fp [], .ptr 2000000 0 0 0, .ptr 2000001 0 0 0, .ptr 2000002 0 0 0] [(2000000, .box [iv e] 28), (2000001, .box (tmE t) 83), (2000002, .box [itsA l] 332)] [2000000, 2000001, 2000002] (.tup []) [(2000000, .box [iv (lesE e h t (d1 (itg l h)))] 28), (2000001, .box (tmE (lesT e h t (d1 (itg l h)))) 83), (2000002, .box [itsA l] 332)] := by
 refine kI (ts := [(0, iv h), (1, .fn fp []), (2, .ptr 2000000 0 0 0), (3, .ptr 2000001 0 0 0), (4, .ptr 2000002 0 0 0)]) (rv := []) (n := 27) (cs := [.ptr 2000000 0 0 0, .ptr 2000001 0 0 0, .ptr 2000002 0 0 0]) (by kernel_rfl) func349 rfl ntmps349 rfl rfl (by simp) rfl rfl rfl rfl (fun g w d vs => ?_);apply yg;apply ye;iterate 2 refine ya ?_
 refine xX 2 ?_;refine ym ?_;iterate 2 refine xW ?_
 refine gf ?_ ?_<;>intro U
 ·have hE : e = lesE e h t (d1 (itg l h)) := by grind [lesE]
  have V : t = lesT e h t (d1 (itg l h)) := by grind [lesT]
  refine xU ?_;rw [← hE, ← V];refine zka.mk [] [] (.inr rfl) (.many (by decide) .nil);all_goals rfl
 have hE : lsE t (d1 (itg l h)) = lesE e h t (d1 (itg l h)) := by simp_all [lesE]
 have V : subV t (d1 (itg l h)) = lesT e h t (d1 (itg l h)) := by simp_all [lesT]
 refine gq ?_;refine yW [13,14,15,16,17,18,19,20,21,22,23,24] [0,0,0,4,0,28,60,126,255,511,1023,1023,2047,8191] mo ?_;iterate 7 refine yb ?_
 refine yH (hf (itg l h)) ?_;refine yH (zcI t (d1 (itg l h))) ?_;iterate 3 refine yb ?_
 refine ChM.lt 11 ?_ ?_
 ·refine gd ?_ ?_<;>intro T
  ·have Z : (14 : Int) = lesE e h t (d1 (itg l h)) := by simp_all [lsE]
   apply yi;refine xY ?_;apply k9;rw [← Z, ← V];refine zka.mk [] [] (.inl rfl) (.many (by decide) .nil);all_goals rfl
  ·have Z : subE t (d1 (itg l h)) = lesE e h t (d1 (itg l h)) := by simp_all [lsE]
   apply yl;rw [← Z, ← V];refine zka.mk [] [] (.inl rfl) (.many (by decide) .nil);all_goals rfl
 ·refine gd ?_ ?_<;>intro Q
  ·have Z : (14 : Int) = lesE e h t (d1 (itg l h)) := by simp_all [lsE]
   apply yi;refine xY ?_;apply k9;rw [← Z, ← V];refine zka.mk [] [] (.inl rfl) (.many (by decide) .nil);all_goals rfl
  ·have Z : subE t (d1 (itg l h)) = lesE e h t (d1 (itg l h)) := by simp_all [lsE]
   apply yl;rw [← Z, ← V];refine zka.mk [] [] (.inl rfl) (.many (by decide) .nil);all_goals rfl
set_option maxHeartbeats 4000000 in
def zek (l : List Ite) (s : Sgm) (u : Tm) (k : Int) (hs : SgOk k l s) (I : ∀ x ∈ l, itF x = 0) (hl : l.length <= 1000000) : Fn prog 329 [.agg [itsA l], smA s, tmA u] (.tup [tmA (cnV u l s), iv (cnE u l s)]) := by
 have f0 := hs.f0;have ft := hs.ft;have tl := hs.tl;have H := zrK hs;have G := zxc (s := s) I;have N : s.Left < l.length := by rcases hs.lf with h | h <;> omega
 have J : s.Right < l.length := by rcases hs.rt with h | h <;> omega
 have T : Fn prog 348 [tmsA (drL ((itR l s).take (itR l s).length))] (.tup [tmA (cnA l s).1, iv (cnA l s).2]) := by
  grind [zmC, drL]
 have E : [] = drL ((itR l s).take 0) := by rfl
 refine xV func329 ntmps329 (fun g w d => ?_);apply ye;iterate 3 refine zF ?_
 refine zh ?_;refine ya ?_;apply yE;refine yh ?_;iterate 2 apply yg
 refine xZ (yF tmE 83 2 8 200 rfl rfl) ?_;apply yi;iterate 6 refine ya ?_
 refine zY (zdf rfl rfl rfl zht zkc (fun _ => rfl) (by omega) (by omega) (by omega)) rfl ?_;refine yL ?_;apply xS;refine zq (fun n => [(3, .ptr 3 0 0 0), (4, .ptr 4 0 0 0), (5, .ptr 5 0 0 0), (6, .ptr 6 0 0 0), (8, .own 200), (20, itsA (itR l s)), (21, iv (itR l s).length), (22, iv (n : Int))]) (fun n => [(3, .box [itsA l] 332), (4, .box (smE s) 317), (5, .box (tmE u) 83), (6, .box [iv 0, iv 0] 83), (200, .row tmE (drL ((itR l s).take n)) 83 2)]) ((itR l s).length) (fun n hk => ?_) (h0 := yd);refine gd ?_ ?_<;>intro xT
 ·obtain ⟨x, hx⟩ : ∃ x, (itR l s)[n]? = some x := ⟨_, lgg (by omega)⟩;have x4 : (itR l s)[(n : Int).toNat]? = some x := by simpa using hx
  have x3 := zpD hx;have x2 : (drL ((itR l s).take n)).length <= 1000000 := by unfold drL; simp; omega
  refine gq ?_;refine yz tmE [⟨_, _⟩] ?_;refine gq ?_;refine yw (n + 1)
 ·have hn : n = (itR l s).length := by omega
  subst hn;apply k8;apply yg;refine xZ (xP (k := 200) rfl) ?_;refine gc T ?_;refine gd ?_ ?_<;>intro V
  ·have hE := (zpA (u := u) V).1;have U := (zpA (u := u) V).2;apply yg;refine yW [39,40] [0,0,1,7] mo ?_;(iterate 2 refine yb ?_);refine ChM.lt 1 ?_ ?_
   ·refine gq ?_;refine yx ty83 ?_ ?_;all_goals (first | exact zE hE | exact zE U)
   ·refine gq ?_;refine yx ty83 ?_ ?_;all_goals (first | exact zE hE | exact zE U)
  have Z := zvf V;refine gq ?_;refine zV [(2000000, 12), (2000001, 11), (2000002, 3)] (zbv l s.Left (cnA l s).2 (cnA l s).1 350 (fun x => x.After) zdM N) ?_;refine gq ?_;refine zV [(2000000, 12), (2000001, 11), (2000002, 3)] (zbv l s.Right (lesE (cnA l s).2 s.Left (cnA l s).1 (itg l s.Left).After) (lesT (cnA l s).2 s.Left (cnA l s).1 (itg l s.Left).After) 351 (fun x => x.Before) zdN J) ?_;refine gd ?_ ?_<;>intro Q
  ·have h0 : ¬ (cnC l s).2 = 0 := by rw [Z.1]; exact Q
   have hE := (zpB (u := u) h0).1;have U := (zpB (u := u) h0).2;rw [Z.1] at hE;apply yg;refine yW [52,53] [0,0,1,7] mo ?_;(iterate 2 refine yb ?_);refine ChM.lt 1 ?_ ?_
   ·refine gq ?_;refine yx ty83 ?_ ?_;all_goals (first | exact zE hE | exact zE U)
   ·refine gq ?_;refine yx ty83 ?_ ?_;all_goals (first | exact zE hE | exact zE U)
  have h0 : (cnC l s).2 = 0 := by rw [Z.1]; exact Q
  have hE := (zpC (u := u) h0).1;have U := (zpC (u := u) h0).2;rw [Z.2 h0] at hE U;refine gc (zmE (lesT (lesE (cnA l s).2 s.Left (cnA l s).1 (itg l s.Left).After) s.Right (lesT (cnA l s).2 s.Left (cnA l s).1 (itg l s.Left).After) (itg l s.Right).Before) u) ?_;refine yx ty83 ?_ ?_;all_goals grind [setAt, tmE]
set_option maxHeartbeats 4000000 in
def zbP (m : Mn) (k : Int) (l : List Ite) (h0 : -9223372036854775808 <= k) (h1 : k <= 9223372036854775807) (hl : l.length <= 1000000) : Fn prog 297 [mnA m, iv k, itsA l] (.tup [smsA (segV m k l), iv (segE m k l)]) := by
 have hok := zkp k l;have x1 := zxd (unT m k) l (sgs0 l (bds k l));have xT := zpy k l (bds k l).length;rw [jH] at xT;refine xV func297 ntmps297 (fun g w d => ?_);refine gc (zgu m k h0 h1) ?_;refine gd ?_ ?_<;>intro V
 ·have hE : segE m k l = unE m k := by unfold segE; rw [j3 V]
  have U : [] = segV m k l := by unfold segV; rw [j3 (by rw [hE]; exact V)]
  apply ye;refine yy ?_;refine xU ?_;refine xQ (yd (ts := [(6, smsA []), (7, iv (unE m k))]) (hs := [])) ?_;refine yj ?_ ?_;all_goals grind
 have hU : unE m k = 0 := V;refine gc (zfo l (by omega)) ?_;refine gd ?_ ?_<;>intro T
 ·have hE : segE m k l = ckIE l := by unfold segE; rw [j4 hU, j3 T]
  have U : [] = segV m k l := by unfold segV; rw [j3 (by rw [hE]; exact T)]
  apply ye;refine yy ?_;refine xU ?_;refine xQ (yd (ts := [(6, smsA []), (7, iv (ckIE l))]) (hs := [])) ?_;refine yj ?_ ?_;all_goals grind
 have hK : ckIE l = 0 := T;have hP := zcO hK;have N : segE m k l = segX (unT m k) l (sgs0 l (bds k l)) := by grind [segE]
 refine gq ?_;refine zV [(39, 39)] (zd9 l k hl) ?_;refine gq ?_
 refine zdW (ι := Nat) (fun (n : Nat) => [(8, .ptr 8 0 0 0), (12, .ptr 12 0 0 0), (13, .own 39), (40, iv (sgs0 l (bds k l)).length), (41, iv (n : Int))]) (fun (n : Nat) => [(8, .box (tmE (unT m k)) 83), (12, .box [itsA l] 332), (39, .row smE (sgP (unT m k) l (sgs0 l (bds k l)) n) 317 7)]) (fun (n : Nat) => n <= (sgs0 l (bds k l)).length /\ segX (unT m k) l (sgs0 l (bds k l)) = segX (unT m k) l ((sgs0 l (bds k l)).drop n)) (fun (n : Nat) => (sgs0 l (bds k l)).length - n) 0 (fun n hk => ?_) (hJ := by
  simp) (h0 := by exact yk)
 obtain ⟨x0, J⟩ := hk;refine gd ?_ ?_<;>intro w2
 ·obtain ⟨s, hs⟩ : ∃ s, (sgs0 l (bds k l))[n]? = some s := ⟨_, lgg (by omega)⟩;have x4 := hok.all s (j6 hs);have v9 := zrL (unT m k) l (sgs0 l (bds k l)) n;have I := zvg (u := unT m k) (l := l) hs;have H := I.1;have v8 := I.2;have G : (sgP (unT m k) l (sgs0 l (bds k l)) n)[(n : Int).toNat]? = some s := by simpa using H
  refine gq ?_;refine yW [15,44,45,46,47,48,49,50,51,52,53] [0,0,0,6,14,0,63,127,255,255,0,1535,4095] mo ?_;iterate 4 refine yb ?_
  refine yb ?_ (hs := by exact zeN rfl rfl G rfl rfl TyK.h);refine yb ?_;refine yH (zek l s (unT m k) k x4 hP hl) ?_;iterate 3 refine yb ?_
  refine ChM.step rfl rfl rfl (zu (k := 15) zc83) rfl ?_;refine zbK 9 ⟨[(8, .ptr 8 0 0 0), (12, .ptr 12 0 0 0), (13, .own 39), (40, iv (sgs0 l (bds k l)).length), (41, iv (n : Int)), (14, iv (n : Int)), (15, .ptr 15 0 0 0), (16, iv (cnE (unT m k) l s))], [(8, .box (tmE (unT m k)) 83), (12, .box [itsA l] 332), (39, .row smE (sgP (unT m k) l (sgs0 l (bds k l)) n) 317 7), (15, .box (tmE (cnV (unT m k) l s)) 83)]⟩ (fun Q hQ => ?_) (fun Q hQ => ?_) ?_
  ·refine xY ?_;refine ya ?_;exact kG yk hQ
  ·refine xY ?_;(iterate 2 refine ya ?_);exact kG yk hQ
  refine gd ?_ ?_<;>intro Z
  ·have E := zpE Z;have hE : segE m k l = cnE (unT m k) l s := by rw [N, J, zdy hs, E, j3 Z]
   have U : [] = segV m k l := by unfold segV; rw [j3 (by rw [hE]; exact Z)]
   apply ye;refine yy ?_;refine xU ?_;refine xQ (yd (ts := [(6, smsA []), (7, iv (cnE (unT m k) l s))]) (hs := [])) ?_;refine yj ?_ ?_;all_goals grind
  have x3 : cnE (unT m k) l s = 0 := Z;apply yl;apply yg;apply ye;iterate 6 refine ya ?_
  refine xX 6 ?_;refine ym ?_;iterate 3 refine xW ?_
  refine gf ?_ ?_<;>intro x2
  ·have E : segR (unT m k) l s = 14 := by unfold segR; rw [j4 x3, j4 x2]
   have hE : segE m k l = 14 := by rw [N, J, zdy hs, E, j3 (by decide)]
   have U : [] = segV m k l := by unfold segV; rw [j3 (by rw [hE]; decide)]
   apply ye;refine yL ?_;refine xU ?_;refine xQ (yd (ts := [(6, smsA []), (7, iv 14)]) (hs := [])) ?_;refine yj ?_ ?_;all_goals grind
  have E : segR (unT m k) l s = 0 := by grind [segR]
  apply yl;apply yi;iterate 5 refine ya ?_
  refine xY (hs := y4 (n := 2) s (segW (unT m k) l s) rfl rfl H (fun _ => rfl) (by decide) rfl rfl rfl (by decide) rfl rfl rfl TyK.h) ?_;refine gq ?_
  refine yw (n + 1) (hJ := by
   grind [zdy]) (hI := yk)
 ·have hn : n = (sgs0 l (bds k l)).length := by omega
  subst hn;have hE : segE m k l = 0 := by rw [N, J, wS]; rfl
  have U : sgP (unT m k) l (sgs0 l (bds k l)) (sgs0 l (bds k l)).length = segV m k l := by grind [segV, zrM]
  apply k8;apply ye;refine yy ?_;refine xU ?_;refine xQ (xP (k := 39) rfl) ?_;refine yj ?_ ?_;all_goals (first | (rw [← U]; done) | exact zE hE | exact j5 (fun z => smsA z) U | (rw [← U]; rfl))
end
section
def pfF : Tm -> List Tm -> List Tm
 | _, [] => []
 | t, d :: r => t :: pfF (addV t d) r
def sumA : Tm -> List Tm -> Tm
 | t, [] => t
 | t, d :: r => sumA (addV t d) r
def rlaL (l : List Ite) : List Tm := ((pfF ⟨0, 1⟩ (drL l)).filter fun t => decide (subE (sumA ⟨0, 1⟩ (drL l)) t = 0)).map fun t => subV (sumA ⟨0, 1⟩ (drL l)) t
def rfPo (u : Tm) (k : Int) (l now : List Ite) (lo : Bool) (s : Sgm) : Bool :=
 !(decide (s.Left < 0) || !lgQ u (itg now s.Left)) && (!(lo && decide ((itg l s.Left).Value = k)) && rcQ u (fsL (itR l s)) (itg l s.Left).After)
def rfBl (k : Int) (l : List Ite) (h : Int) : Bool :=
 decide ((itg l h).Value = k) && decide ((itg l h).Cut = 0) && decide (h + 1 < l.length) && !(itg l (h + 1)).Color && decide ((itg l (h + 1)).Value = k)
def rfAn (u : Tm) (k : Int) (l now : List Ite) (s : Sgm) : Bool :=
 !(decide (s.Right < 0) || !lgQ u (itg now s.Right)) && (!rfBl k l s.Right && rcQ u (rlaL (itR l s)) (itg l s.Right).Before)
def rfAt (u : Tm) (k : Int) (l : List Ite) (s : Sgm) : Bool :=
 !(decide (s.From = s.To) || s.Free || (!decide (s.Right < 0) && !decide ((itg l s.Right).Before.N = 0))) && ntQ u k (itg l (s.To - 1))
def rfR (p a t : Bool) (s : Sgm) : List Int :=
 if s.Free = true then (if s.Count.D = 1 /\ s.Count.N % 3 = 1 /\ p = true then [0, 1] else [0])
 else if s.Count.N % 3 = 0 then [0]
 else if s.Count.N % 3 = 1 then (if p = true then [1] else []) ++ (if a = true then [2] else [])
 else (if p = true /\ a = true then [3] else []) ++ (if t = true then [4] else [])
def rfLo (M : List Int) (n : Nat) : Bool := decide (0 < n) && (decide (M.getD (n - 1) 0 = 2) || decide (M.getD (n - 1) 0 = 3))
def rfA (u : Tm) (k : Int) (S : List Sgm) (l now : List Ite) (M : List Int) (n : Nat) : List Int :=
 let s := S.getD n default
 rfR (rfPo u k l now (rfLo M n) s) (rfAn u k l now s) (rfAt u k l s) s
def zvh {p a t : Bool} {s : Sgm} (h : s.Free = true \/ s.Count.D = 1) : rfR p a t s = alR p a t s := by
 have Z := uL s.Count.N (show (3 : Int) ≠ 0 by omega);have V := wZ s.Count.N (show (0 : Int) < 3 by omega);unfold rfR alR;generalize s.Count.N % 3 = r at *
 have hr : r = 0 \/ r = 1 \/ r = 2 := by omega
 cases hf : s.Free with
 | true => all_goals grind
 | false =>
  have U : s.Count.D = 1 := by simp_all
  rcases hr with rfl | rfl | rfl <;> simp [U]
def zlz {l now : List Ite} {s : Sgm} {k : Int} (hs : SgOk k l s) (hl : now.length = l.length) (h : ∀ i : Int, s.From <= i -> itg now i = itg l i) : itR now s = itR l s := by
 unfold itR;have hf := hs.f0;apply uK;intro i;rcases w6 i (s.To.toNat - s.From.toNat) with Z | Z
 ·rw [wW Z, wW Z, wH, wH];have := h ((s.From.toNat + i : Nat) : Int) (by omega);unfold itg at this;rw [wJ, jA, jA] at this;rcases w6 (s.From.toNat + i) l.length with V | V
  ·rw [lgg (by omega), lgg V] at this ⊢;simpa using this
  ·rw [wL (by omega), wL V]
 grind
def zpF : ∀ (t : Tm) (d : Tm) (r : List Tm), pfF t (d :: r) = t :: (smF t (d :: r)).dropLast
 | t, d, [] => rfl
 | t, d, e :: r => by
  have := zpF (addV t d) e r;simp_all [pfF, smF]
def zlA : ∀ (t : Tm) (d : Tm) (r : List Tm), (smF t (d :: r)).getLast? = some (sumA t (d :: r))
 | t, d, [] => rfl
 | t, d, e :: r => by
  have := zlA (addV t d) e r;simp_all [smF, sumA]
theorem zpG {a t : Tm} (h : ¬ ckT a = 0) : ¬ subE a t = 0 := fun Z => h (zsh Z).1
def zvi {w : Tm} (Z : ckT w = 0) (l : List Ite) : w ∈ rlaL l ↔ w ∈ lasL l := by
 unfold rlaL lasL;cases hl : drL l with
 | nil => grind [fsL, pfF, smF]
 | cons d r =>
  have V : (fsL l).getLast? = some (sumA ⟨0, 1⟩ (d :: r)) := by unfold fsL; rw [hl]; exact zlA _ _ _
  have U : pfF ⟨0, 1⟩ (d :: r) = ⟨0, 1⟩ :: (fsL l).dropLast := by unfold fsL; rw [hl]; exact zpF _ _ _
  grind [zx0, zpG]
def zxe (u : Tm) (l : List Ite) (b : Tm) : rcQ u (rlaL l) b = rcQ u (lasL l) b := by
 unfold rcQ;by_cases h : addE b u = 0;all_goals simp_all [zvi, zsg]
def zxf {u : Tm} {k : Int} {S : List Sgm} {l : List Ite} {M : List Int} {n : Nat} {st : List Ite × List (Int × Bool)} {s : Sgm} (V : S[n]? = some s) (hs : SgOk k l s) (h : StaOk l S M n st) :
 rfPo u k l st.1 (rfLo M n) s = poQ u k st.1 st.2 s := by
 unfold rfPo poQ;rcases hs.lf with Z | ⟨Z, U, T, Q⟩
 ·simp_all
 ·rw [j9 (show ¬ s.Left < 0 by omega)];obtain ⟨l1, l2⟩ := h.left s V Z;have hv := (h.same s.Left Z).2.1;rw [zlz hs h.len (fun i hi => (h.rest s V i hi).1), l1, l2, hv]
  grind [rfLo]
def zxg {u : Tm} {k : Int} {S : List Sgm} {l : List Ite} {M : List Int} {n : Nat} {st : List Ite × List (Int × Bool)} {s : Sgm} (hl : ∀ x ∈ l, 0 <= x.Cut) (Z : S[n]? = some s) (hs : SgOk k l s) (h : StaOk l S M n st) :
 rfAn u k l st.1 s = anQ u k st.1 s := by
 unfold rfAn anQ;rcases hs.rt with V | ⟨V, Q, N, J⟩
 ·simp_all
 ·have hf := hs.ft;have U := hs.f0;rw [j9 (show ¬ s.Right < 0 by omega)];have e1 := (h.rest s Z s.Right (by omega)).1;have e2 := (h.rest s Z (s.Right + 1) (by omega)).1
  have T : rfBl k l s.Right = blQ k st.1 s.Right := by
   unfold rfBl blQ;rw [e1, e2, h.len]
   have I : 0 <= (itg l s.Right).Cut := by
    unfold itg;rw [jA, lgg (by omega)];exact hl _ (uO _)
   have : decide ((itg l s.Right).Cut = 0) = !decide (0 < (itg l s.Right).Cut) := by
    generalize (itg l s.Right).Cut = cc at *
    by_cases h0 : cc = 0
    ·subst h0; rfl
    ·rw [j9 h0, jI (show 0 < cc by omega)]; rfl
   rw [this];cases decide ((itg l s.Right).Value = k) <;> cases (!decide (0 < (itg l s.Right).Cut)) <;> cases decide (s.Right + 1 < (l.length : Int)) <;> simp
  rw [zlz hs h.len (fun i hi => (h.rest s Z i hi).1), e1, T, zxe];all_goals grind
def zxh {u : Tm} {k : Int} {S : List Sgm} {l : List Ite} {M : List Int} {n : Nat} {st : List Ite × List (Int × Bool)} {s : Sgm} (V : S[n]? = some s) (hs : SgOk k l s) (h : StaOk l S M n st) :
 rfAt u k l s = atQ u k st.1 s := by
 unfold rfAt atQ;by_cases Z : s.From = s.To
 ·simp [Z]
 ·have hf := hs.ft;rw [(h.rest s V (s.To - 1) (by omega)).1]
  have hr : (decide (s.Right < 0) || decide ((itg st.1 s.Right).Before.N = 0)) = (decide (s.Right < 0) || decide ((itg l s.Right).Before.N = 0)) := by
   rcases hs.rt with U | ⟨U, T⟩
   ·simp_all
   ·rw [(h.rest s V s.Right (by omega)).1]
  rw [hr, j9 Z];cases s.Free <;> cases ntQ u k (itg l (s.To - 1)) <;> cases decide (s.Right < 0) <;> cases decide ((itg l s.Right).Before.N = 0) <;> rfl
def zkz {u : Tm} {k : Int} {S : List Sgm} {l : List Ite} {M : List Int} {n : Nat} (hl : ∀ x ∈ l, 0 <= x.Cut) (V : SgsOk k l S) (U : ∀ s ∈ S, s.Free = true \/ s.Count.D = 1) (T : n < S.length) (Q : okJ u k S l M n = true) :
 rfA u k S l (stK u S l M n).1 M n = alK u k S l M n := by
 have Z := zpk V n (by omega) Q;have hs : S[n]? = some S[n] := lgg T;have N : S.getD n default = S[n] := by simp_all
 have hm := j6 hs;unfold rfA alK alQ;simp only;rw [N];generalize S[n] = s at *
 rw [zxf hs (V.all s hm) Z, zxg hl hs (V.all s hm) Z, zxh hs (V.all s hm) Z, zvh (U s hm)]
end
end Go.Rse
