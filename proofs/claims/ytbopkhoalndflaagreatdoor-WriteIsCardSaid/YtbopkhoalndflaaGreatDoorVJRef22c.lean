/-
  Walks.
-/
import Derived.Test.YtbopkhoalndflaaGreatDoorVJLaw22a
set_option linter.all false
namespace Go.Rse
open Go Go.Proofs Go.Proofs.Tryz
section
attribute [local irreducible] Pur yu yq Ex X Fn Imp LeV LeB FnO It yD
def mdL (m : Mn) (v y : Int) : List Tm :=
 if y = 1 \/ y = 8 then [yp m v]
 else if y = 2 then (if m.p v = 2 then [tmkT ((yp m v).N * 3) ((yp m v).D * 2)] else [])
 else if y = 3 then (rlL m v (5 - v).toNat v (yp m v)).filter fun x => !decide (x = yp m v)
 else if y = 4 then (if (2 <= v /\ v <= 5) /\ m.p (v - 1) = 3 then [tmkT ((yp m v).N * 2) ((yp m v).D * 1)] else [])
 else if y = 5 then [durT m v]
 else if y = 6 then [tmkT ((durT m v).N * 3) ((durT m v).D * 2)]
 else if y = 7 then (if m.p 4 = 2 /\ v = 4 then [⟨3, 2⟩] else if m.p 4 = 2 /\ v = 5 then [⟨1, 2⟩] else [])
 else []
def duB (m : Mn) (v : Int) : Bool := decide (0 <= (durT m v).N) && decide ((durT m v).N <= 1000) && decide (0 <= (durT m v).D) && decide ((durT m v).D <= 1000)
def zrR : zgc duB = true := by kernel_rfl
def zxq {m : Mn} {v : Int} (hm : ckM m = 0) (Z : 1 <= v) (V : v <= 8) : 0 <= (durT m v).N /\ (durT m v).N <= 1000 /\ 0 <= (durT m v).D /\ (durT m v).D <= 1000 := by
 have h := zbQ zrR hm Z V;unfold duB at h;simp only [j7, wA] at h;exact ⟨h.1.1.1, h.1.1.2, h.1.2, h.2⟩
def zpM {L : List Tm} {F u : Tm} {k : Nat} (h : L[k]? = some u) : (L.take (k + 1)).filter (fun x => !decide (x = F)) = (L.take k).filter (fun x => !decide (x = F)) ++ (if u = F then [] else [u]) := by
 rw [jE, h, wU];by_cases e : u = F <;> simp [e]
attribute [local irreducible] cmpV subV yp insT rlN rlL tmkT durT mdL
set_option maxHeartbeats 4000000 in
def zfF (m : Mn) (hm : ckM m = 0) (s : Sp) (V : 1 <= s.Value) (U : s.Value <= 8) (kZ : 1 <= s.Way) (kY : s.Way <= 8) : Fn prog 174 [mnA m, spA s] (tmsA (mdL m s.Value s.Way)) := by
 have hF := zyi hm V U;have kX := hF.n;have kW := hF.n1;have kV := hF.d;have kU := (zaj hF.ck).2.2.2.2.1;obtain ⟨kT, k5, k4, k3⟩ := zxq hm V U;have Q := zf1 m s.Value;rw [zmf hm V U, j4 rfl] at Q;obtain ⟨D, hD⟩ : ∃ D, D = rlL m s.Value (5 - s.Value).toNat s.Value (yp m s.Value) := ⟨_, rfl⟩;have I := zfC m hm s.Value V (5 - s.Value).toNat s.Value (yp m s.Value) rfl V U;rw [← hD] at I;have v5 := zhK m s.Value (5 - s.Value).toNat s.Value (yp m s.Value);rw [← hD] at v5;have j2 : 3 ^ (5 - s.Value).toNat <= 3 ^ 4 := uX (by decide) (by omega);have j0 : 3 ^ 4 = 81 := rfl;refine xV func174 ntmps174 (fun g w d => ?_);refine gc (zH hm V U) ?_;refine yM Q ?_;iterate 3 refine ya ?_
 refine zh ?_;refine xY ?_;refine yh ?_;apply yg;apply ye;refine yL ?_;apply xS;refine zb0 ⟨[(2, .ptr 2 0 0 0), (5, iv s.Value), (6, .ptr 6 0 0 0), (8, .ptr 8 0 0 0), (28, iv s.Way), (29, .bool (decide (s.Way = 1 \/ s.Way = 8)))], [(2, .box (mnE m) 23), (6, .box (tmE (yp m s.Value)) 83), (8, .box (tmE (durT m s.Value)) 83)]⟩ (fun H => ?_) ?_
 ·refine gd ?_ ?_<;>intro G
  ·have hb : decide (s.Way = 1) = decide (s.Way = 1 \/ s.Way = 8) := by simp [G]
   apply yl;exact xZ yk H
  ·have hb : decide (s.Way = 8) = decide (s.Way = 1 \/ s.Way = 8) := by simp [G]
   apply yi;refine yL ?_;exact xZ yk H
 refine zwj rfl ?_ ?_<;>intro v4
 ·have Z : [yp m s.Value] = mdL m s.Value s.Way := by unfold mdL; rw [j4 v4]
  refine gq ?_;refine yz tmE [yp m s.Value] ?_;refine yh ?_;refine xU ?_;refine xQ (xP (k := 33) rfl) ?_;refine gq ?_;all_goals (first | exact j5 tmsA Z | rfl)
 refine gd ?_ ?_<;>intro v3
 ·have E : s.Way = 2 := v3;refine gc (yX m s.Value) ?_;refine gd ?_ ?_<;>intro xT
  ·have Z : [tmkT ((yp m s.Value).N * 3) ((yp m s.Value).D * 2)] = mdL m s.Value s.Way := by unfold mdL; rw [j3 (by omega), j4 E, j4 xT]
   refine gc (zaH (yp m s.Value) 3 2 (by omega) (by omega)) ?_;all_goals exact j5 tmsA Z
  have Z : [] = mdL m s.Value s.Way := by unfold mdL; rw [j3 (by omega), j4 E, j3 xT]
  apply yl;apply ye;refine yh ?_;refine xU ?_;refine xQ (yd (ts := [(4, tmsA [])]) (hs := [])) ?_;refine gq ?_;all_goals (first | exact j5 tmsA Z | rfl)
 ·refine gd ?_ ?_<;>intro v1
  ·have v0 : s.Way = 3 := v1;apply ye;refine yh ?_;apply yg;refine xZ (yF tmE 83 2 10 10 rfl rfl) ?_;refine gq ?_;refine yM I ?_;refine yh ?_;apply yg;apply ye;refine yh ?_;apply xS;have hZ : [] = (D.take 0).filter (fun x => !decide (x = yp m s.Value)) := by simp
   refine zq (fun k => [(6, .ptr 6 0 0 0), (10, .own 10), (11, tmsA D), (12, iv (k : Int))]) (fun k => [(6, .box (tmE (yp m s.Value)) 83), (10, .row tmE ((D.take k).filter (fun x => !decide (x = yp m s.Value))) 83 2)]) D.length (fun k hk => ?_);refine gd ?_ ?_<;>intro hY
   ·obtain ⟨u, hu⟩ : ∃ u, D[k]? = some u := ⟨_, lgg (by omega)⟩;have hX : D[(k : Int).toNat]? = some u := by simpa using hu
    have T := zpM (F := yp m s.Value) hu;have hW := wM (fun x => !decide (x = yp m s.Value)) (D.take k);have hU : (D.take k).length <= D.length := by rw [jM]; omega
    refine gq ?_;refine yW [55,56,57,58,59,60] [0,0,3,7,0,31] mo ?_;(iterate 6 refine yb ?_);refine yA ?_;refine gd ?_ ?_<;>intro x4
    ·rw [j3 x4] at T;have x3 := T.symm;refine gq ?_;refine yz tmE [u] ?_;refine gq ?_;refine yw (k + 1) (hI := yk)
    ·rw [j4 x4, wE] at T;have x3 := T.symm;refine gq ?_;refine yw (k + 1) (hI := yk)
   ·have u3 : k = D.length := by omega
    subst u3;have Z : (D.take D.length).filter (fun x => !decide (x = yp m s.Value)) = mdL m s.Value s.Way := by unfold mdL; rw [j3 (by omega), j3 (by omega), j4 v0, jH, hD]
    apply k8;apply ye;refine yL ?_;refine xU ?_;refine xQ (xP (k := 10) rfl) ?_;refine gq ?_;all_goals (first | exact j5 tmsA Z | rfl)
  refine gd ?_ ?_<;>intro u2
  ·have x2 : s.Way = 4 := u2;apply ye;(iterate 2 refine ya ?_);refine xX 2 ?_;refine gq ?_;refine kK (yX m (s.Value - 1)) ?_;refine xW ?_;refine gf ?_ ?_<;>intro u1
   ·have Z : [tmkT ((yp m s.Value).N * 2) ((yp m s.Value).D * 1)] = mdL m s.Value s.Way := by unfold mdL; rw [j3 (by omega), j3 (by omega), j3 (by omega), j4 x2, j4 u1]
    refine gc (zaH (yp m s.Value) 2 1 (by omega) (by omega)) ?_;all_goals exact j5 tmsA Z
   have Z : [] = mdL m s.Value s.Way := by unfold mdL; rw [j3 (by omega), j3 (by omega), j3 (by omega), j4 x2, j3 (by omega)]
   apply yl;apply ye;refine yh ?_;refine xU ?_;refine xQ (yd (ts := [(4, tmsA [])]) (hs := [])) ?_;refine gq ?_;all_goals (first | exact j5 tmsA Z | rfl)
  ·refine gd ?_ ?_<;>intro x1
   ·have Z : [durT m s.Value] = mdL m s.Value s.Way := by unfold mdL; rw [j3 (by omega), j3 (by omega), j3 (by omega), j3 (by omega), j4 x1]
    refine gq ?_;refine yz tmE [durT m s.Value] ?_;refine yh ?_;refine xU ?_;refine xQ (xP (k := 89) rfl) ?_;refine gq ?_;all_goals (first | exact j5 tmsA Z | rfl)
   refine gd ?_ ?_<;>intro x0
   ·have Z : [tmkT ((durT m s.Value).N * 3) ((durT m s.Value).D * 2)] = mdL m s.Value s.Way := by unfold mdL; rw [j3 (by omega), j3 (by omega), j3 (by omega), j3 (by omega), j3 (by omega), j4 x0]
    refine gc (zaH (durT m s.Value) 3 2 (by omega) (by omega)) ?_;all_goals exact j5 tmsA Z
   refine gd ?_ ?_<;>intro w2
   ·have J : s.Way = 7 := w2;refine gq ?_;refine yM (yX m 4) ?_;refine ya ?_;refine xX 3 ?_;refine ym ?_;(iterate 2 refine xW ?_);refine gf ?_ ?_<;>intro v9
    ·have Z : [⟨3, 2⟩] = mdL m s.Value s.Way := by unfold mdL; rw [j3 (by omega), j3 (by omega), j3 (by omega), j3 (by omega), j3 (by omega), j3 (by omega), j4 J, j4 v9]
     refine gq ?_;refine yz tmE [⟨3, 2⟩] ?_;refine yh ?_;refine xU ?_;refine xQ (xP (k := 104) rfl) ?_;refine gq ?_;all_goals (first | exact j5 tmsA Z | rfl)
    refine gq ?_;refine yM (yX m 4) ?_;refine ya ?_;refine xX 3 ?_;refine ym ?_;(iterate 2 refine xW ?_);refine gf ?_ ?_<;>intro v8
    ·have Z : [⟨1, 2⟩] = mdL m s.Value s.Way := by unfold mdL; rw [j3 (by omega), j3 (by omega), j3 (by omega), j3 (by omega), j3 (by omega), j3 (by omega), j4 J, j3 (by omega), j4 v8]
     refine gq ?_;refine yz tmE [⟨1, 2⟩] ?_;refine yh ?_;refine xU ?_;refine xQ (xP (k := 113) rfl) ?_;refine gq ?_;all_goals (first | exact j5 tmsA Z | rfl)
    have Z : [] = mdL m s.Value s.Way := by unfold mdL; rw [j3 (by omega), j3 (by omega), j3 (by omega), j3 (by omega), j3 (by omega), j3 (by omega), j4 J, j3 (by omega), j3 (by omega)]
    apply yl;apply ye;refine yh ?_;refine xU ?_;refine xQ (yd (ts := [(4, tmsA [])]) (hs := [])) ?_;refine gq ?_;all_goals (first | exact j5 tmsA Z | rfl)
   ·omega
end
section
attribute [local irreducible] Pur yu yq Ex X Fn Imp LeV LeB FnO It yD
def mdB (m : Mn) (v : Int) : Bool := (List.range 8).all fun i => ztX (wdL m v (1 + i)) (mdL m v (1 + (i : Int))) && decide ((mdL m v (1 + (i : Int))).length <= 81)
def zrS : zgc mdB = true := by kernel_rfl
def zvn {m : Mn} {v : Int} (hm : ckM m = 0) (V : 1 <= v) (U : v <= 8) {i : Nat} (hi : i < 8) : (∀ x, x ∈ mdL m v (1 + (i : Int)) ↔ x ∈ wdL m v (1 + (i : Int)).toNat) /\ (mdL m v (1 + (i : Int))).Pairwise ltT /\ (mdL m v (1 + (i : Int))).length <= 81 := by
 have h := jB.1 (show (List.range 8).all _ = true from zbQ zrS hm V U) i (uR.2 hi);rw [j7] at h;have Z := h.1;unfold ztX at Z;simp only [j7, jB, wA] at Z;rw [show (1 + (i : Int)).toNat = 1 + i by omega];exact ⟨fun x => ⟨Z.1.2 x, fun hx => (Z.1.1 x hx).2⟩, Z.2, of_decide_eq_true h.2⟩
attribute [local irreducible] cmpV subV yp insT rlN rlL tmkT durT mdL wdL alO alI allE bthE zcy
set_option maxHeartbeats 4000000 in
def zgb (m : Mn) (t : Tm) : Fn prog 127 [mnA m, tmA t] (.tup [spsA (allE m t), iv (bthE m t)]) := by
 refine xV func127 ntmps127 (fun g w d => ?_);refine gc (zfB m t) ?_;refine gd ?_ ?_<;>intro Z
 ·have I : [] = allE m t := by unfold allE; rw [j3 Z]
  apply ye;refine yy ?_;refine xU ?_;refine xQ (yd (ts := [(4, spsA []), (5, iv (bthE m t))]) (hs := [])) ?_;refine yj ?_ ?_;all_goals (first | exact j5 spsA I | rfl | exact j5 (AV.int .i64) Z.symm)
 apply yl;apply ye;refine yh ?_;iterate 2 apply yg
 refine xZ (yF spE 155 5 7 7 rfl rfl) ?_;apply yi;refine yh ?_;apply xS;have x2 : [] = alO m t 0 := by unfold alO; rfl
 have T := (zqd Z).1;refine zq (fun j => [(2, .ptr 2 0 0 0), (3, .ptr 3 0 0 0), (7, .own 7), (8, iv (1 + (j : Int)))]) (fun j => [(2, .box (mnE m) 23), (3, .box (tmE t) 83), (7, .row spE (alO m t j) 155 5)]) 8 (fun j hk => ?_);refine gd ?_ ?_<;>intro x1
 ·apply yl;apply yg;apply xS;apply ye;refine yh ?_;apply xS;have x0 : alO m t j = alO m t j ++ alI m t (1 + (j : Int)) (1 + 0) := by unfold alI; simp [alI]
  have w2 := zhQ m t j;refine zq (fun i => [(2, .ptr 2 0 0 0), (3, .ptr 3 0 0 0), (7, .own 7), (8, iv (1 + (j : Int))), (9, iv (1 + (i : Int)))]) (fun i => [(2, .box (mnE m) 23), (3, .box (tmE t) 83), (7, .row spE (alO m t j ++ alI m t (1 + (j : Int)) (1 + i)) 155 5)]) 8 (fun i hk => ?_);refine gd ?_ ?_<;>intro v9
  ·obtain ⟨Q, N, H⟩ := zvn T (v := 1 + (j : Int)) (by omega) (by omega) (i := i) (by omega);have V := zfF m T (spOf (1 + (j : Int)) (1 + (i : Int))) (by show 1 <= 1 + (j : Int); omega) (by show 1 + (j : Int) <= 8; omega) (by show 1 <= 1 + (i : Int); omega) (by show 1 + (i : Int) <= 8; omega);rw [show mdL m (spOf (1 + (j : Int)) (1 + (i : Int))).Value (spOf (1 + (j : Int)) (1 + (i : Int))).Way = mdL m (1 + (j : Int)) (1 + (i : Int)) from rfl] at V;generalize mdL m (1 + (j : Int)) (1 + (i : Int)) = D at V Q N H;refine gq ?_;refine yW [10,26,27,28,29,30] [0,0,0,6,15,31] mo ?_;(iterate 3 refine yb ?_);refine yH (zcz (1 + (j : Int)) (1 + (i : Int))) ?_;refine yH V ?_;refine yb ?_;refine yA ?_;apply yE;refine yh ?_;apply xS;have v8 := zuZ (alO m t j ++ alI m t (1 + (j : Int)) (1 + i)) (spOf (1 + (j : Int)) (1 + (i : Int))) t D;have v5 := zhP m t (1 + (j : Int)) (1 + i);refine zq (fun q => [(2, .ptr 2 0 0 0), (3, .ptr 3 0 0 0), (7, .own 7), (8, iv (1 + (j : Int))), (9, iv (1 + (i : Int))), (10, tmsA D), (11, iv (q : Int))]) (fun q => [(2, .box (mnE m) 23), (3, .box (tmE t) 83), (7, .row spE (zcy (alO m t j ++ alI m t (1 + (j : Int)) (1 + i)) (spOf (1 + (j : Int)) (1 + (i : Int))) t D q) 155 5)]) D.length (fun q hk => ?_);refine gd ?_ ?_<;>intro v4
   ·obtain ⟨u, G⟩ : ∃ u, D[q]? = some u := ⟨_, lgg (by omega)⟩;have v3 : D[(q : Int).toNat]? = some u := by simpa using G
    have E := zpf (alO m t j ++ alI m t (1 + (j : Int)) (1 + i)) (spOf (1 + (j : Int)) (1 + (i : Int))) t D q;rw [jJ] at E;refine gq ?_;refine yW [37,38,39,40,41,42] [0,0,3,7,0,31] mo ?_;(iterate 6 refine yb ?_);refine yA ?_;refine gd ?_ ?_<;>intro J
    ·have U := zpe (X := alO m t j ++ alI m t (1 + (j : Int)) (1 + i)) (s := (spOf (1 + (j : Int)) (1 + (i : Int)))) G J N;refine gq ?_;refine yM (zcz (1 + (j : Int)) (1 + (i : Int))) ?_;refine yz spE [spOf (1 + (j : Int)) (1 + (i : Int))] ?_;refine gq ?_;refine yw (q + 1) (hI := yk)
    ·have U := zro (X := alO m t j ++ alI m t (1 + (j : Int)) (1 + i)) (s := (spOf (1 + (j : Int)) (1 + (i : Int)))) G J;refine gq ?_;refine yw (q + 1) (hI := yk)
   ·have xT : q = D.length := by omega
    subst xT;have U := zpg (t := t) Q (alO m t j);refine gq ?_;refine yw (i + 1) (hI := yk)
  ·have x4 : i = 8 := by omega
   subst x4;have U : alO m t j ++ alI m t (1 + (j : Int)) (1 + 8) = alO m t (j + 1) := by conv => rhs; unfold alO
   refine gq ?_;refine yw (j + 1) (hI := yk)
 ·have x3 : j = 8 := by omega
  subst x3;have I : alO m t 8 = allE m t := by unfold allE; rw [j4 Z]
  apply k8;apply ye;refine yy ?_;refine xU ?_;refine xQ (xP (k := 7) rfl) ?_;refine yj ?_ ?_;all_goals (first | exact j5 spsA I | rfl | exact j5 (AV.int .i64) Z.symm)
end
section
def zxr {m : Mn} {l : List Bt} {k : Nat} {b : Bt} (h0 : ckM m = 0) (Z : l[k]? = some b) (V : btF (l.take k) = 0) (h : ¬ btC b = 0) : wcE m l = btC b := by
 have e := ziq Z V
 grind [wcE, zir]
def zxs {l : List Bt} {k : Nat} {b : Bt} (Z : l[k]? = some b) (V : btF (l.take k) = 0) (h : btC b = 0) : btF (l.take (k + 1)) = 0 := by
 rw [ziq Z V, h]
def pvQ (b : Bt) (h : Hb) (v : Int) (c : Bool) (s : Sp) : Bool := decide (s.Value = v) && decide (s.Color = c) && urQ b h s
def smQ (b : Bt) (h : Hb) (v : Int) (c : Bool) (L : List Sp) : Bool := L.any (pvQ b h v c)
def plQ (b : Bt) (h : Hb) (v : Int) (c : Bool) (L : List Sp) : Bool := L.any fun s => pvQ b h v c s && !s.Dot
def zxt {b : Bt} {h : Hb} {v : Int} {c : Bool} {L : List Sp} {k : Nat} {s : Sp} (hs : L[k]? = some s) : smQ b h v c (L.take (k + 1)) = (smQ b h v c (L.take k) || pvQ b h v c s) := by
 unfold smQ; rw [jE, hs]; simp
def zxu {b : Bt} {h : Hb} {v : Int} {c : Bool} {L : List Sp} {k : Nat} {s : Sp} (hs : L[k]? = some s) : plQ b h v c (L.take (k + 1)) = (plQ b h v c (L.take k) || (pvQ b h v c s && !s.Dot)) := by
 unfold plQ; rw [jE, hs]; simp
def zvo {α : Type} {p q : α -> Bool} : ∀ {L : List α}, (∀ x ∈ L, p x = q x) -> L.any p = L.any q
 | [], _ => rfl
 | x :: r, h => by grind
theorem zpN {m : Mn} {b : Bt} {h : Hb} {v : Int} {c : Bool} : rkC b h (allE m b.Dur) v c = (if plQ b h v c (allE m b.Dur) then [⟨v, c, false⟩] else []) ++ (if smQ b h v c (allE m b.Dur) && h.Dots then [⟨v, c, true⟩] else []) := by
 unfold rkC plQ smQ
 have e1 : ((allE m b.Dur).any fun s => slQ b h s && decide (s.Value = v) && decide (s.Color = c) && !s.Dot) = (allE m b.Dur).any fun s => pvQ b h v c s && !s.Dot := zvo fun s hs => by
  unfold pvQ; rw [zuk hs];cases slQ b h s <;> simp
 grind [pvQ, zuk]
def rkW (b : Bt) (h : Hb) (L : List Sp) (v : Int) : Nat -> List Fo
 | 0 => []
 | 1 => rkC b h L v false
 | _ => rkV b h L v
def cI (n : Nat) : Bool := decide ((n : Int) = 1)
theorem zt8 {b : Bt} {h : Hb} {L : List Sp} {v : Int} {n : Nat} (Z : n < 2) : rkW b h L v n ++ rkC b h L v (cI n) = rkW b h L v (n + 1) := by
 rcases n with _ | _ | n
 ·rfl
 ·rfl
 ·omega
def rjL (m : Mn) (b : Bt) (h : Hb) (j n : Nat) : List (List Sg) := (rkL b h (allE m b.Dur) j ++ rkW b h (allE m b.Dur) (1 + (j : Int)) n).map (foS b.Rest)
def zxv (m : Mn) (b : Bt) (h : Hb) : [] = rjL m b h 0 0 := rfl
def zxw (m : Mn) (b : Bt) (h : Hb) (j : Nat) : rjL m b h j 2 = rjL m b h (j + 1) 0 := by
 unfold rjL
 grind [rkW, rkL]
def zxx (m : Mn) (b : Bt) (h : Hb) : rjL m b h 8 0 = frV m b h := by
 simp [rjL, frV, frL, rkW]
def zrT (b : Bt) (h : Hb) (L : List Sp) (n : Nat) : (rkL b h L n).length <= 4 * n := by
 induction n with
 | zero => simp [rkL]
 | succ n ih =>
  have Z : ∀ c, (rkC b h L (1 + (n : Int)) c).length <= 2 := fun c => by
   unfold rkC; rw [jJ];split <;> split <;> simp
  grind [rkL, rkV]
theorem zng (m : Mn) (b : Bt) (h : Hb) (j n : Nat) (V : j <= 8) : (rjL m b h j n).length <= 100 := by
 unfold rjL;rw [jU, jJ];have U := zrT b h (allE m b.Dur) j
 have Z : ∀ c, (rkC b h (allE m b.Dur) (1 + (j : Int)) c).length <= 2 := fun c => by
  grind [rkC]
 have T := Z false;have Q := Z true
 have N : (rkW b h (allE m b.Dur) (1 + (j : Int)) n).length <= 4 := by
  rcases n with _ | _ | n
  ·simp [rkW]
  ·grind [rkW]
  ·show (rkV b h (allE m b.Dur) (1 + (j : Int))).length <= 4
   grind [rkV]
 omega
def foB (r : Bool) (v : Int) (c : Bool) : Sg := if r then ⟨2, v, 0, 0, false, 0, false, false, ⟨0, 0, 0, 0⟩, false, 0, 0, 0, 0⟩ else ⟨1, v, 4, 0, c, 0, false, false, ⟨0, 0, 0, 0⟩, false, 0, 0, 0, 0⟩
abbrev doS : Sg := ⟨3, 0, 0, 0, false, 0, false, false, ⟨0, 0, 0, 0⟩, false, 0, 0, 0, 0⟩
theorem zt9 (r : Bool) (v : Int) (c : Bool) : foS r ⟨v, c, false⟩ = [foB r v c] := by rfl
theorem zxy (r : Bool) (v : Int) (c : Bool) : foS r ⟨v, c, true⟩ = [foB r v c, doS] := by rfl
def rjP (m : Mn) (b : Bt) (h : Hb) (j n : Nat) : List (List Sg) := rjL m b h j n ++ (if plQ b h (1 + (j : Int)) (cI n) (allE m b.Dur) then [[foB b.Rest (1 + (j : Int)) (cI n)]] else [])
def zrU (m : Mn) (b : Bt) (h : Hb) (j n : Nat) (Z : j <= 8) : (rjP m b h j n).length <= 101 := by
 grind [zng, rjP]
def zxz {m : Mn} {b : Bt} {h : Hb} {j n : Nat} (Z : plQ b h (1 + (j : Int)) (cI n) (allE m b.Dur) = true) : rjL m b h j n ++ [[foB b.Rest (1 + (j : Int)) (cI n)]] = rjP m b h j n := by grind [rjP]
def zxA {m : Mn} {b : Bt} {h : Hb} {j n : Nat} (Z : plQ b h (1 + (j : Int)) (cI n) (allE m b.Dur) = false) : rjL m b h j n = rjP m b h j n := by unfold rjP; rw [Z]; simp
def zxB {m : Mn} {b : Bt} {h : Hb} {j n : Nat} (Z : n < 2) (V : smQ b h (1 + (j : Int)) (cI n) (allE m b.Dur) = true) (U : h.Dots = true) : rjP m b h j n ++ [[foB b.Rest (1 + (j : Int)) (cI n), doS]] = rjL m b h j (n + 1) := by
 unfold rjP rjL
 grind [zt8, zpN, zt9, zxy]
def zxC {m : Mn} {b : Bt} {h : Hb} {j n : Nat} (T : n < 2) (Z : ¬ (smQ b h (1 + (j : Int)) (cI n) (allE m b.Dur) = true /\ h.Dots = true)) : rjP m b h j n = rjL m b h j (n + 1) := by
 have hx : (smQ b h (1 + (j : Int)) (cI n) (allE m b.Dur) && h.Dots) = false := by
  cases V : smQ b h (1 + (j : Int)) (cI n) (allE m b.Dur) <;> cases U : h.Dots <;> simp [V, U] at Z ⊢
 grind [rjP, rjL, zt8, zpN, zt9]
def zAA {m : Mn} {l : List Bt} {h : Hb} (c : wcE m l = 0) (c2 : ¬ 12 < l.length) (c3 : cqO m h l = true) : wcnE m l h = 0 /\ wcnV m l h = 0 := by
 simp_all [znn, znN]
def zAB {m : Mn} {l : List Bt} {h : Hb} (c : wcE m l = 0) (c2 : ¬ 12 < l.length) (c3 : cqO m h l = false) (c4 : 4096 < cqN m h l) : wcnE m l h = 15 /\ wcnV m l h = 0 := by
 have q := (zuh m h l 1 (jC _) c3).1;rw [Nat.one_mul] at q;exact zqk c c2 (q.1 c4)
def zAC {m : Mn} {l : List Bt} {h : Hb} (c : wcE m l = 0) (c2 : ¬ 12 < l.length) (c3 : cqO m h l = false) (c4 : ¬ 4096 < cqN m h l) : wcnE m l h = 0 /\ wcnV m l h = (cqN m h l : Int) := by
 simp_all [zuh, cqN, znN]
def zxD {m : Mn} {h : Hb} {n : Nat} {b : Bt} (Z : 0 < (frV m b h).length) (V : n <= 4096) : (n : Int) * ((frV m b h).length : Int) = ((cqS m h n b : Nat) : Int) := by
 simp_all [cqS]
def zxE {m : Mn} {h : Hb} {n : Nat} {b : Bt} (Z : ¬ (0 < (frV m b h).length /\ n <= 4096)) : n = cqS m h n b := by
 grind [cqS]
attribute [local irreducible] Pur yu yq Ex X Fn Imp LeV LeB FnO It yD FnW FnOW FnP FnD
attribute [local irreducible] wcE btF btC ckT ckM allE bthE urQ pvQ smQ plQ rjL rjP frV cqO cqN cqS wcnE wcnV fmV
def zfG (b : Bt) : Fn prog 126 [btA b] (iv (btC b)) := by
 refine xV func126 ntmps126 (fun g w d => ?_);refine gc (zJ b.Dur) ?_;refine gd ?_ ?_<;>intro V
 ·have Z : btC b = ckT b.Dur := by grind [btC]
  refine gq ?_;all_goals rw [Z]
 have h0 : ckT b.Dur = 0 := by omega
 refine gd ?_ ?_<;>intro U
 ·have Z : btC b = 2 := by simp_all [btC]
  refine gq ?_;all_goals rw [Z]
 have Z : btC b = 0 := by simp_all [btC]
 refine gq ?_;all_goals rw [Z]
def za2 (m : Mn) (l : List Bt) (hl : l.length <= 9223372036854775807) : Fn prog 74 [mnA m, btsA l] (iv (wcE m l)) := by
 refine xV func74 ntmps74 (fun g w d => ?_);refine gc (zj m) ?_;refine gd ?_ ?_<;>intro U
 ·have V := zsk (l := l) U;refine gq ?_;all_goals rw [V]
 have h0 : ckM m = 0 := by omega
 have N : iv (ckM m) = iv 0 := by rw [h0]
 refine gq ?_
 refine zdW (ι := Nat) (fun (k : Nat) => [(1, btsA l), (5, iv 0), (6, iv (k : Int))]) (fun (k : Nat) => []) (fun (k : Nat) => k <= l.length /\ btF (l.take k) = 0) (fun (k : Nat) => l.length - k) 0 (fun k J => ?_) (hJ := by
  simp [btF]) (h0 := by exact yk)
 obtain ⟨I, Z⟩ := J;refine gd ?_ ?_<;>intro H
 ·obtain ⟨b, T⟩ : ∃ b, l[k]? = some b := ⟨_, lgg (by omega)⟩;have G : l[(k : Int).toNat]? = some b := by simpa using T
  refine gc (zfG b) ?_;refine gd ?_ ?_<;>intro Q
  ·have V := zxr h0 T Z Q;refine gq ?_;all_goals rw [V]
  have E : btC b = 0 := by omega
  have xT := zxs T Z E;refine gq ?_
  refine yw (k + 1) (hJ := by
   omega) (hI := yk)
 ·obtain rfl : k = l.length := by omega
  have V := zx1 h0 Z;refine gq ?_;all_goals rw [V]
def zfH (s : Sp) (b : Bt) (h : Hb) : Fn prog 128 [spA s, btA b, hbA h] (.bool (urQ b h s)) := by
 refine xV func128 ntmps128 (fun g w d => ?_);apply ye;iterate 3 refine zF ?_
 refine ya ?_;apply yE;iterate 5 refine ya ?_
 refine xX 5 ?_;refine ym ?_;iterate 7 refine xW ?_
 iterate 2 refine ym ?_
 iterate 7 refine xW ?_
 iterate 2 refine ym ?_
 iterate 7 refine xW ?_
 refine zdF ?_;refine yL ?_;refine xU ?_;refine zav ?_
 grind [urQ]
set_option maxHeartbeats 4000000 in
theorem zcf (m : Mn) (b : Bt) (h : Hb) : Fn prog 75 [mnA m, btA b, hbA h] (.tup [zb7 (fmV m b h), iv (wcE m [b])]) := by
 have x2 := znJ m b.Dur;have x1 := zxv m b h;have E := zxx m b h;refine xV func75 ntmps75 (fun g w d => ?_);refine gq ?_;refine kF (yo (enc := btE) (l := [b]) sl24 zgP zkd (by decide) rfl rfl rfl rfl (by decide) (by decide) (fun _ => rfl) rfl) rfl rfl ?_;refine gc (za2 m [b] (by simp)) ?_;refine gd ?_ ?_<;>intro xT
 ·have hV : fmV m b h = [] := by unfold fmV; rw [j3 xT]
  apply ye;refine yy ?_;refine xU ?_;refine xQ (yd (ts := [(6, zb7 []), (7, iv (wcE m [b]))]) (hs := [])) ?_;refine yj ?_ ?_;all_goals simp_all
 have h0 : wcE m [b] = 0 := by omega
 have hV : fmV m b h = frV m b h := by grind [fmV]
 refine gq ?_;refine yM (zgb m b.Dur) ?_;iterate 5 refine ya ?_
 apply yE;refine yh ?_;iterate 2 apply yg
 refine xZ (yF sgsE 33 1 11 30 rfl rfl) ?_;apply yi;refine yh ?_;apply xS;refine zq (fun j => [(4, .ptr 4 0 0 0), (5, .ptr 5 0 0 0), (9, spsA (allE m b.Dur)), (11, .own 30), (12, iv (1 + (j : Int)))]) (fun j => [(4, .box (btE b) 100), (5, .box (hbE h) 32), (30, .row sgsE (rjL m b h j 0) 33 1)]) 8 (fun j hk => ?_);refine gd ?_ ?_<;>intro x0
 ·have x4 := zng m b h j;apply yl;apply yg;apply xS;apply ye;refine yh ?_;apply xS;refine zq (fun n => [(4, .ptr 4 0 0 0), (5, .ptr 5 0 0 0), (9, spsA (allE m b.Dur)), (11, .own 30), (12, iv (1 + (j : Int))), (13, iv (n : Int))]) (fun n => [(4, .box (btE b) 100), (5, .box (hbE h) 32), (30, .row sgsE (rjL m b h j n) 33 1)]) 2 (fun n hk => ?_);refine gd ?_ ?_<;>intro w2
  ·have v9 : false = smQ b h (1 + (j : Int)) (cI n) ((allE m b.Dur).take 0) := by unfold smQ; rfl
   have v8 : false = plQ b h (1 + (j : Int)) (cI n) ((allE m b.Dur).take 0) := by unfold plQ; rfl
   apply yl;apply yg;apply xS;apply ye;refine yL ?_;apply yg;apply ye;refine yh ?_;apply xS;refine zq (fun i => [(4, .ptr 4 0 0 0), (5, .ptr 5 0 0 0), (9, spsA (allE m b.Dur)), (11, .own 30), (12, iv (1 + (j : Int))), (13, iv (n : Int)), (14, .bool (smQ b h (1 + (j : Int)) (cI n) ((allE m b.Dur).take i))), (15, .bool (plQ b h (1 + (j : Int)) (cI n) ((allE m b.Dur).take i))), (16, iv (i : Int))]) (fun i => [(4, .box (btE b) 100), (5, .box (hbE h) 32), (30, .row sgsE (rjL m b h j n) 33 1)]) ((allE m b.Dur).length) (fun i hk => ?_);refine gd ?_ ?_<;>intro v5
   ·obtain ⟨s, hs⟩ : ∃ s, (allE m b.Dur)[i]? = some s := ⟨_, lgg (by omega)⟩;have v4 : (allE m b.Dur)[(i : Int).toNat]? = some s := by simpa using hs
    have Z := zxt (b := b) (h := h) (v := (1 + (j : Int))) (c := cI n) hs;have V := zxu (b := b) (h := h) (v := (1 + (j : Int))) (c := cI n) hs;refine gq ?_;refine yW [46,47,48,49,50,51,52,53,54,55,56,57,58,59,60,61,62,63,64,65,66,67,68,69,70,71] [0,0,3,7,15,0,63,127,255,255,1023,2047,4095,255,8447,32767,65535,131071,262143,262143,1048575,2097151,262143,262143,16777215,33554431] mo ?_;(iterate 8 refine yb ?_);(iterate 8 refine k6 ?_);(iterate 2 refine yb ?_);(iterate 6 refine k6 ?_);refine kJ (zfH s b h) ?_;refine yb ?_;refine yA ?_;refine gd ?_ ?_<;>intro v3
    ·have hp : pvQ b h (1 + (j : Int)) (cI n) s = true := by
      simp_all [pvQ, cI]
     rw [hp] at Z V;simp only [Bool.or_true, Bool.true_and] at Z V;have Q := Z.symm;have N := V.symm;apply ye;refine yh ?_;apply yi;refine ya ?_;refine xX 1 ?_;refine ym ?_;(iterate 6 refine xW ?_);refine ge ?_;refine yw (i + 1) (hI := yk)
    ·have hp : pvQ b h (1 + (j : Int)) (cI n) s = false := by
      grind [pvQ, cI]
     rw [hp] at Z V;simp only [Bool.or_false, Bool.false_and] at Z V;have Q := Z.symm;have N := V.symm;refine gq ?_;refine yw (i + 1) (hI := yk)
   ·obtain rfl : i = (allE m b.Dur).length := by omega
    have v1 : smQ b h (1 + (j : Int)) (cI n) ((allE m b.Dur).take (allE m b.Dur).length) = smQ b h (1 + (j : Int)) (cI n) (allE m b.Dur) := by simp
    have v0 : plQ b h (1 + (j : Int)) (cI n) ((allE m b.Dur).take (allE m b.Dur).length) = plQ b h (1 + (j : Int)) (cI n) (allE m b.Dur) := by simp
    apply k8;apply ye;(iterate 4 refine ya ?_);refine zh ?_;refine xY ?_;apply k9;refine zb0 ⟨[(4, .ptr 4 0 0 0), (5, .ptr 5 0 0 0), (9, spsA (allE m b.Dur)), (11, .own 30), (12, iv (1 + (j : Int))), (13, iv (n : Int)), (14, .bool (smQ b h (1 + (j : Int)) (cI n) (allE m b.Dur))), (15, .bool (plQ b h (1 + (j : Int)) (cI n) (allE m b.Dur))), (17, .ptr 17 0 0 0)], [(4, .box (btE b) 100), (5, .box (hbE h) 32), (30, .row sgsE (rjL m b h j n) 33 1), (17, .box (sgE (foB b.Rest (1 + (j : Int)) (cI n))) 90)]⟩ (fun U => ?_) ?_
    ·refine gd ?_ ?_<;>intro u3
     ·have x3 : sgE ⟨2, (1 + (j : Int)), 0, 0, false, 0, false, false, ⟨0, 0, 0, 0⟩, false, 0, 0, 0, 0⟩ = sgE (foB b.Rest (1 + (j : Int)) (cI n)) := by grind [foB]
      apply yi;(iterate 2 refine ya ?_);refine xY ?_;apply k9;exact xZ yk U
     ·have x3 : sgE ⟨1, (1 + (j : Int)), 4, 0, decide ((n : Int) = 1), 0, false, false, ⟨0, 0, 0, 0⟩, false, 0, 0, 0, 0⟩ = sgE (foB b.Rest (1 + (j : Int)) (cI n)) := by simp_all [foB, cI]
      apply yl;exact xZ yk U
    refine zb0 ⟨[(4, .ptr 4 0 0 0), (5, .ptr 5 0 0 0), (9, spsA (allE m b.Dur)), (11, .own 30), (12, iv (1 + (j : Int))), (13, iv (n : Int)), (14, .bool (smQ b h (1 + (j : Int)) (cI n) (allE m b.Dur))), (17, .ptr 17 0 0 0)], [(4, .box (btE b) 100), (5, .box (hbE h) 32), (30, .row sgsE (rjP m b h j n) 33 1), (17, .box (sgE (foB b.Rest (1 + (j : Int)) (cI n))) 90)]⟩ (fun T => ?_) ?_
    ·refine gd ?_ ?_<;>intro J
     ·have I := zxz J;have u2 := x4 n (by omega);refine gq ?_;refine kF (yo (enc := sgE) (l := [foB b.Rest (1 + (j : Int)) (cI n)]) sl33 ty90 ze90 (by decide) rfl rfl rfl rfl (by decide) (by decide) (fun _ => rfl) rfl) rfl rfl ?_;refine kF (yo (enc := sgsE) (l := [[foB b.Rest (1 + (j : Int)) (cI n)]]) sl56 ty33 ze33 (by decide) rfl rfl rfl rfl (by decide) (by decide) (fun _ => rfl) rfl) rfl rfl ?_;refine xY ?_;refine yh ?_;exact xZ yk T
     ·have I := zxA (m := m) (by simpa using J);apply yl;exact xZ yk T
    apply ye;refine ya ?_;refine xX 1 ?_;refine ym ?_;(iterate 2 refine xW ?_);refine gf ?_ ?_<;>intro H
    ·have u1 := zrU m b h j n (by omega);have G := zxB (by omega) H.1 H.2;refine gq ?_;refine kF (yo (enc := sgE) (l := [foB b.Rest (1 + (j : Int)) (cI n), doS]) sl33 ty90 ze90 (by decide) rfl rfl rfl rfl (by decide) (by decide) (fun _ => rfl) rfl) rfl rfl ?_;refine kF (yo (enc := sgsE) (l := [[foB b.Rest (1 + (j : Int)) (cI n), doS]]) sl56 ty33 ze33 (by decide) rfl rfl rfl rfl (by decide) (by decide) (fun _ => rfl) rfl) rfl rfl ?_;refine gq ?_;refine yw (n + 1) (hI := yk)
    ·have G := zxC (m := m) (b := b) (h := h) (j := j) (n := n) (by omega) (by all_goals grind);refine gq ?_;refine yw (n + 1) (hI := yk)
  ·obtain rfl : n = 2 := by omega
   have kZ := zxw m b h j;refine gq ?_;refine yw (j + 1) (hI := yk)
 ·obtain rfl : j = 8 := by omega
  apply k8;apply ye;refine yy ?_;refine xU ?_;refine xQ (xP (k := 30) rfl) ?_;refine yj ?_ ?_;all_goals (first | exact zE hV | rfl | exact zE h0 | (rw [E, hV]; rfl))
end
end Go.Rse
