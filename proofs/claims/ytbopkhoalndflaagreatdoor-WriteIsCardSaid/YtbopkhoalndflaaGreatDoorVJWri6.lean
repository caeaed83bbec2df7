/-
  Plain.
-/
import Derived.Test.YtbopkhoalndflaaGreatDoorVJRul7
set_option linter.all false
namespace Go.Rse
open Go Go.Proofs Go.Proofs.Tryz
section
def minL : List Int -> Int -> Int
 | [], a => a
 | x :: r, a => minL r (if x < a then x else a)
def meV (m : Mn) : Int := match perfL m with
 | [] => 3
 | x :: r => minL r x
def meU (m : Mn) : Tm := yp m (meV m)
def whB (u s : Tm) : Bool := decide (whE s u = 0) && decide ((whR s u).N = 0)
def bkE (u : Tm) : Tm -> List Bt -> Int
 | _, [] => 0
 | s, b :: r => if addE s b.Dur = 0 then bkE u (if whB u (addV s b.Dur) then ⟨0, 1⟩ else addV s b.Dur) r else addE s b.Dur
def bkV (u : Tm) : Tm -> List Bt -> List Bt -> List (List Bt)
 | _, k, [] => if k = [] then [] else [k]
 | s, k, b :: r => if whB u (addV s b.Dur) then (k ++ [b]) :: bkV u ⟨0, 1⟩ [] r else bkV u (addV s b.Dur) (k ++ [b]) r
def blE (m : Mn) (l : List Bt) : Int := if wcE m l = 0 then bkE (meU m) ⟨0, 1⟩ l else wcE m l
def blV (m : Mn) (l : List Bt) : List (List Bt) := if blE m l = 0 then bkV (meU m) ⟨0, 1⟩ [] l else []
def btsE : List Bt -> List AV := fun l => [btsA l]
abbrev blsA (L : List (List Bt)) : AV := .sl btsE L
def suK (s : Tm) (l : List Bt) : Nat -> Tm
 | 0 => s
 | k + 1 => addV (suK s l k) (l.getD k default).Dur
def ziI {s : Tm} {l : List Bt} {k : Nat} {b : Bt} (h : l[k]? = some b) : suK s l (k + 1) = addV (suK s l k) b.Dur := by
 show addV (suK s l k) (l.getD k default).Dur = _;rw [jA, h]; rfl
structure BlK (u : Tm) (l : List Bt) (k : Nat) : Prop where
 e : bkE u ⟨0, 1⟩ l = bkE u (suK ⟨0, 1⟩ l k) (l.drop k)
 v : bkV u ⟨0, 1⟩ [] l = bkV u (suK ⟨0, 1⟩ l k) (l.take k) (l.drop k)
def zyb (u : Tm) (l : List Bt) : BlK u l 0 := ⟨rfl, rfl⟩
def BlK.err {u : Tm} {l : List Bt} {k : Nat} {b : Bt} (h : BlK u l k) (V : l[k]? = some b) (he : ¬ addE (suK ⟨0, 1⟩ l k) b.Dur = 0) : bkE u ⟨0, 1⟩ l = addE (suK ⟨0, 1⟩ l k) b.Dur := by
 have Z := j1.1 V;rw [h.e, jG Z.1, Z.2];show (if addE (suK ⟨0, 1⟩ l k) b.Dur = 0 then _ else _) = _;rw [j3 he]
def BlK.cut {u : Tm} {l : List Bt} {k : Nat} {b : Bt} (h : BlK u l k) (V : l[k]? = some b) (he : addE (suK ⟨0, 1⟩ l k) b.Dur = 0) (U : whB u (suK ⟨0, 1⟩ l (k + 1)) = true) : bkE u ⟨0, 1⟩ l = bkE u ⟨0, 1⟩ (l.drop (k + 1)) /\ bkV u ⟨0, 1⟩ [] l = l.take (k + 1) :: bkV u ⟨0, 1⟩ [] (l.drop (k + 1)) := by
 have Z := j1.1 V;rw [ziI V] at U;refine ⟨?_, ?_⟩
 ·rw [h.e, jG Z.1, Z.2];show (if addE (suK ⟨0, 1⟩ l k) b.Dur = 0 then bkE u (if whB u (addV (suK ⟨0, 1⟩ l k) b.Dur) then ⟨0, 1⟩ else _) _ else _) = _;rw [j4 he, j4 U]
 ·rw [h.v, jG Z.1, Z.2];show (if whB u (addV (suK ⟨0, 1⟩ l k) b.Dur) then _ else _) = _;rw [j4 U, jE, V]; rfl
def BlK.s {u : Tm} {l : List Bt} {k : Nat} {b : Bt} (h : BlK u l k) (V : l[k]? = some b) (he : addE (suK ⟨0, 1⟩ l k) b.Dur = 0) (T : ¬ whB u (suK ⟨0, 1⟩ l (k + 1)) = true) : BlK u l (k + 1) := by
 have U := j1.1 V;have Z := T;rw [ziI V] at Z;refine ⟨?_, ?_⟩
 ·rw [h.e, jG U.1, U.2, ziI V];show (if addE (suK ⟨0, 1⟩ l k) b.Dur = 0 then bkE u (if whB u (addV (suK ⟨0, 1⟩ l k) b.Dur) then _ else _) _ else _) = _;rw [j4 he, j3 Z]
 ·rw [h.v, jG U.1, U.2, ziI V];show (if whB u (addV (suK ⟨0, 1⟩ l k) b.Dur) then _ else _) = _;rw [j3 Z, jE, V]; rfl
def BlK.fin {u : Tm} {l : List Bt} (h : BlK u l l.length) (hl : 0 < l.length) : bkE u ⟨0, 1⟩ l = 0 /\ bkV u ⟨0, 1⟩ [] l = [l] := by
 have e1 := h.e;have e2 := h.v;rw [wS] at e1 e2;rw [jH] at e2;refine ⟨e1, ?_⟩;rw [e2];show (if l = [] then [] else [l]) = [l];rw [j3 (fun e => by rw [e] at hl; simp at hl)]
structure BlO (u : Tm) (l l' : List Bt) (O : List (List Bt)) : Prop where
 e : bkE u ⟨0, 1⟩ l = bkE u ⟨0, 1⟩ l'
 v : bkV u ⟨0, 1⟩ [] l = O ++ bkV u ⟨0, 1⟩ [] l'
 n : O.length + l'.length <= l.length
def zyc (u : Tm) (l : List Bt) : BlO u l l [] := ⟨rfl, rfl, by simp⟩
def BlO.cut {u : Tm} {l l' : List Bt} {O : List (List Bt)} {k : Nat} {b : Bt} (h : BlO u l l' O) (V : BlK u l' k) (Z : l'[k]? = some b) (he : addE (suK ⟨0, 1⟩ l' k) b.Dur = 0) (U : whB u (suK ⟨0, 1⟩ l' (k + 1)) = true) : BlO u l (l'.drop (k + 1)) (O ++ [l'.take (k + 1)]) := by
 obtain ⟨T, Q⟩ := V.cut Z he U;have N := (j1.1 Z).1;have J := h.n;refine ⟨h.e.trans T, by rw [h.v, Q]; simp, ?_⟩;simp only [jJ, wB, wY, uP]; omega
def BlO.last {u : Tm} {l l' : List Bt} {O : List (List Bt)} (h : BlO u l l' O) (Z : BlK u l' l'.length) (hl : 0 < l'.length) : BlO u l [] (O ++ [l']) := by
 obtain ⟨V, U⟩ := Z.fin hl;have T := h.n;refine ⟨h.e.trans V, by rw [h.v, U]; simp [bkV], ?_⟩;simp only [jJ, wB, wY]; omega
def zAT {m : Mn} {l : List Bt} (c : ¬ wcE m l = 0) : blE m l = wcE m l /\ blV m l = [] := by
 have e : blE m l = wcE m l := by unfold blE; rw [j3 c]
 exact ⟨e, by unfold blV; rw [e, j3 c]⟩
def zAU {m : Mn} {l l' : List Bt} {O : List (List Bt)} {k : Nat} {b : Bt} (c : wcE m l = 0) (h : BlO (meU m) l l' O) (Z : BlK (meU m) l' k) (V : l'[k]? = some b) (he : ¬ addE (suK ⟨0, 1⟩ l' k) b.Dur = 0) : blE m l = addE (suK ⟨0, 1⟩ l' k) b.Dur /\ blV m l = [] := by
 have e : blE m l = addE (suK ⟨0, 1⟩ l' k) b.Dur := by unfold blE; rw [j4 c, h.e, Z.err V he]
 exact ⟨e, by unfold blV; rw [e, j3 he]⟩
def zAV {m : Mn} {l : List Bt} {O : List (List Bt)} (c : wcE m l = 0) (h : BlO (meU m) l [] O) : blE m l = 0 /\ blV m l = O := by
 have e : blE m l = 0 := by unfold blE; rw [j4 c, h.e]; rfl
 exact ⟨e, by unfold blV; rw [j4 e, h.v]; simp [bkV]⟩
def meQ (m : Mn) (_ : Int) : Bool := decide (1 <= meV m) && decide (meV m <= 4)
def zsq : zgc meQ = true := by kernel_rfl
end
section
def mnF (l : List Int) (k : Nat) : Int := minL ((l.take k).drop 1) (l.getD 0 0)
def zjV (x : Int) : ∀ (l : List Int) (a : Int), minL (l ++ [x]) a = min (minL l a) x
 | [], a => by
  show (if x < a then x else a) = min a x;rw [Int.min_def];by_cases h : x < a
  ·rw [j4 h, j3 (by omega)]
  ·rw [j3 h, j4 (by omega)]
 | y :: r, a => by show minL (r ++ [x]) _ = min (minL r _) x; rw [zjV x r]
def zyd (l : List Int) : l.getD 0 0 = mnF l 1 := by
 unfold mnF;cases l <;> simp [minL]
def zye {l : List Int} {k : Nat} {x : Int} (Z : 1 <= k) (h : l[k]? = some x) : min (mnF l k) x = mnF l (k + 1) := by
 unfold mnF;rw [jE, h]
 have : ((l.take k) ++ (some x).toList).drop 1 = (l.take k).drop 1 ++ [x] := by
  rw [vA (by have := (j1.1 h).1; rw [jM]; omega)]; rfl
 rw [this, zjV]
def zvS {m : Mn} (h : 0 < (perfL m).length) : mnF (perfL m) (perfL m).length = meV m := by
 unfold mnF meV;rw [jH];cases Z : perfL m with
 | nil => rw [Z] at h; simp at h
 | cons x r => simp
def zvT {m : Mn} (h : (perfL m).length = 0) : meV m = 3 := by
 unfold meV; rw [jN h]
def zvU {m : Mn} (h : ckM m = 0) : 1 <= meV m /\ meV m <= 4 := by
 have := zbQ zsq h (v := 1) (by decide) (by decide);unfold meQ at this;simpa using this
attribute [local irreducible] Pur yu yq Ex X Fn Imp LeV LeB FnO It yD FnW FnOW FnP FnD
attribute [local irreducible] wcE ckM perfL meV yp mnF addV addE whE whR whQ bkE bkV blE blV suK
def zew (l : List Int) (hl : l.length <= 4000000000) (h0 : 0 < l.length) : Fn prog 142 [yc l] (iv (mnF l l.length)) := by
 have V := zyd l;obtain ⟨x0, Z⟩ : ∃ x, l[0]? = some x := ⟨_, lgg h0⟩;have T : l[(0 : Int).toNat]? = some x0 := Z;have Q : x0 = mnF l 1 := by rw [← V, jA, Z]; rfl
 refine xV func142 ntmps142 (fun g w d => ?_);refine gd ?_ ?_<;>intro N
 ·omega
 refine gq ?_;refine zdW (ι := Nat) (fun (k : Nat) => [(0, yc l), (3, iv (mnF l k)), (4, iv (k : Int))]) (fun (k : Nat) => []) (fun (k : Nat) => 1 <= k /\ k <= l.length) (fun (k : Nat) => l.length - k) 1 (fun k J => ?_) (hJ := by exact ⟨by omega, by omega⟩) (h0 := by exact yk);obtain ⟨U, I⟩ := J;refine gd ?_ ?_<;>intro H
 ·obtain ⟨x, hx⟩ : ∃ x, l[k]? = some x := ⟨_, lgg (by omega)⟩;have G : l[(k : Int).toNat]? = some x := by simpa using hx
  have E := zye U hx;apply yl;apply yg;apply xS;apply yi;iterate 5 refine ya ?_
  refine zY (zyD rfl rfl) rfl ?_;refine gq ?_;refine yw (k + 1) (hJ := by exact ⟨by omega, by omega⟩) (hI := yk)
 ·obtain rfl : k = l.length := by omega
  refine gq ?_;all_goals exact zR
def zhB (m : Mn) (hm : ckM m = 0) : Fn prog 102 [mnA m] (tmA (meU m)) := by
 have V := zvU hm;have Q := zkt m;have U := zdj m;rw [j4 hm, hm] at U;refine xV func102 ntmps102 (fun g w d => ?_);refine gc U ?_;refine gd ?_ ?_<;>intro N
 ·have Z := zew (perfL m) (by omega) (by omega);rw [zvS (m := m) (by omega)] at Z;refine gc Z ?_;refine gc (zaT hm V.1 (by omega)) ?_;refine k7 (.one (.cellA rfl rfl rfl rfl ty83 (xR ?_)));all_goals (first | rfl | (unfold meU; rw [T]; rfl))
 ·have T := zvT (m := m) (by omega);refine gc (zaT hm (v := 3) (by decide) (by decide)) ?_;refine k7 (.one (.cellA rfl rfl rfl rfl ty83 (xR ?_)));all_goals (first | rfl | (unfold meU; rw [T]; rfl))
def z8 (l : List Bt) (hl : l.length <= 4000000000) : Fn prog 105 [btsA l] (btsA l) := by
 refine xV func105 ntmps105 (fun g w d => ?_);apply ye;refine yh ?_;apply yg;apply ye;refine ya ?_;refine zvR (fun bn U => ?_) Tryz.underlying24;refine gd ?_ ?_<;>intro Z
 ·have V : l = [] := by
   cases l with
   | nil => rfl
   | cons x r => rw [U (by simp)] at Z; cases Z
  apply ye;refine yh ?_;refine xU ?_;refine xQ (yd (ts := [(2, btsA [])]) (hs := [])) ?_;refine gq ?_;all_goals (first | exact j5 (fun z => btsA z) V.symm | rfl)
 refine gq ?_;refine yz btE [] ?_;refine ya ?_;refine xY ?_;refine yh ?_;refine xU ?_;refine xQ (xP (k := 5) rfl) ?_;refine gq ?_;all_goals (first | exact j5 (fun z => btsA z) V.symm | rfl)
set_option maxHeartbeats 2000000 in
def ziJ (m : Mn) (l : List Bt) (hl : l.length <= 1000000) : Fn prog 48 [mnA m, btsA l] (.tup [blsA (blV m l), iv (blE m l)]) := by
 refine xV func48 ntmps48 (fun g w d => ?_);refine gc (zb1 m l (by omega)) ?_;refine gd ?_ ?_<;>intro J
 ·have I := zAT J;obtain ⟨hE, Q⟩ := I;apply ye;refine yy ?_;refine xU ?_;refine xQ (yd (ts := [(4, blsA []), (5, iv (wcE m l))]) (hs := [])) ?_;refine yj ?_ ?_;all_goals (first | exact zE Q | exact zE hE)
 have h0 : wcE m l = 0 := by omega
 have hm : ckM m = 0 := by
  apply wP; intro h; rw [zsk h] at h0; exact h h0
 refine gq ?_;refine yM (zhB m hm) ?_;refine zh ?_;refine xY ?_;apply yE;refine yh ?_;apply yg;refine X.label ?_;apply yg;apply xS;refine xZ (yF btsE 24 1 8 30 rfl rfl) ?_;refine zdW (ι := List Bt × List (List Bt)) (fun (q : List Bt × List (List Bt)) => [(1, btsA q.1), (7, .ptr 7 0 0 0), (8, .own 30)]) (fun (q : List Bt × List (List Bt)) => [(7, .box (tmE (meU m)) 83), (30, .row btsE q.2 24 1)]) (fun (q : List Bt × List (List Bt)) => BlO (meU m) l q.1 q.2) (fun (q : List Bt × List (List Bt)) => q.1.length) (l, []) (fun q H => ?_) (hJ := by exact zyc _ _) (h0 := by exact yk);have N := H;have x3 := N.n;refine gd ?_ ?_<;>intro x2
 ·have Z : 0 < q.1.length := by omega
  have G : tmE (suK ⟨0, 1⟩ q.1 0) = [iv 0, iv 1] := by unfold suK; rfl
  have x1 := G.symm;apply yl;apply xS;apply ye;refine ya ?_;refine zh ?_;refine xY ?_;apply k9;apply yg;apply ye;refine yy ?_;apply xS;refine zX (fun k => [(1, btsA q.1), (7, .ptr 7 0 0 0), (8, .own 30), (9, .ptr 9 0 0 0), (28, btsA q.1), (29, iv (q.1.length : Int)), (30, iv (k : Int))]) (fun k => [(7, .box (tmE (meU m)) 83), (9, .box (tmE (suK ⟨0, 1⟩ q.1 k)) 83), (30, .row btsE q.2 24 1)]) (fun k => k <= q.1.length /\ BlK (meU m) q.1 k) q.1.length (fun k H => ?_) (hJ := by exact ⟨by omega, zyb _ _⟩);obtain ⟨x0, V⟩ := H;refine gd ?_ ?_<;>intro w2
  ·obtain ⟨b, U⟩ : ∃ b, q.1[k]? = some b := ⟨_, lgg (by omega)⟩;have v9 : q.1[(k : Int).toNat]? = some b := by simpa using U
   have v8 : tmE (addV (suK ⟨0, 1⟩ q.1 k) b.Dur) = tmE (suK ⟨0, 1⟩ q.1 (k + 1)) := by rw [ziI U]
   refine gc (zbd (suK ⟨0, 1⟩ q.1 k) b.Dur) ?_;refine gd ?_ ?_<;>intro E
   ·have xT := zAU h0 N V U E;obtain ⟨hE, Q⟩ := xT;apply ye;refine yy ?_;refine xU ?_;refine xQ (yd (ts := [(4, blsA []), (5, iv (addE (suK ⟨0, 1⟩ q.1 k) b.Dur))]) (hs := [])) ?_;refine yj ?_ ?_;all_goals (first | exact zE Q | exact zE hE)
   have he : addE (suK ⟨0, 1⟩ q.1 k) b.Dur = 0 := by omega
   refine gq ?_;refine yM (zkL (addV (suK ⟨0, 1⟩ q.1 k) b.Dur) (meU m)) ?_;(iterate 4 refine ya ?_);refine zh ?_;refine ya ?_;refine xY ?_;refine ya ?_;apply yE;(iterate 2 refine ya ?_);refine xX 2 ?_;refine ym ?_;(iterate 3 refine xW ?_);refine gf ?_ ?_<;>intro T
   ·have hw : whB (meU m) (suK ⟨0, 1⟩ q.1 (k + 1)) = true := by unfold whB; rw [ziI U]; simp [T.1, T.2]
    have v5 : q.1.drop ((k : Int) + 1).toNat = q.1.drop (k + 1) := by rw [show ((k : Int) + 1).toNat = k + 1 by omega]
    have v4 : q.2 ++ [q.1.take ((k : Int) + 1).toNat] = q.2 ++ [q.1.take (k + 1)] := by rw [show ((k : Int) + 1).toNat = k + 1 by omega]
    refine gq ?_
    first
     | refine zY (zcs rfl rfl rfl sl24 zgP (by omega) (by omega)) rfl ?_
     | refine zY (zde rfl rfl sl24 zgP (fun _ => rfl) (by omega) (by omega)) rfl ?_
    refine yM (z8 (q.1.take ((k : Int) + 1).toNat) (by rw [jM]; omega)) ?_;refine yz btsE [q.1.take ((k : Int) + 1).toNat] ?_;refine gq ?_
    first
     | refine zY (zO rfl rfl rfl sl24 zgP (by omega) (by omega)) rfl ?_
     | refine zY (zar rfl rfl sl24 zgP (fun _ => rfl) (by omega) (by omega)) rfl ?_
    refine gq ?_;refine yw (q.1.drop (k + 1), q.2 ++ [q.1.take (k + 1)]) (hJ := N.cut V U he hw) (hm := by have := (j1.1 U).1; show (q.1.drop (k + 1)).length < q.1.length; rw [uP]; omega) (hI := yk)
   have hw : ¬ whB (meU m) (suK ⟨0, 1⟩ q.1 (k + 1)) = true := by
    intro e; unfold whB at e; rw [ziI U] at e; simp only [j7, wA] at e;rcases T with h | h
    ·exact h e.1
    ·exact h e.2
   refine gq ?_;refine yw (k + 1) (hJ := by exact ⟨by omega, V.s U he hw⟩) (hI := yk)
  ·obtain rfl : k = q.1.length := by omega
   refine gq ?_;refine yM (z8 q.1 (by omega)) ?_;refine yz btsE [q.1] ?_;refine gq ?_;refine yw ([], q.2 ++ [q.1]) (hJ := N.last V Z) (hm := by show 0 < q.1.length; exact Z) (hI := yk)
 ·have Z : q.1 = [] := jN (by omega);have hO : BlO (meU m) l [] q.2 := Z ▸ N;have x4 := zAV h0 hO;obtain ⟨hE, Q⟩ := x4;apply k8;apply ye;refine yy ?_;refine xU ?_;refine xQ (xP (k := 30) rfl) ?_;refine yj ?_ ?_;all_goals (first | exact zE Q | exact zE hE)
end
section
abbrev mO : Mn := ⟨2, 2, 3, 2⟩
abbrev hAll : Hb := ⟨true, true, true⟩
def bt1 (n : Int) : Bt := ⟨⟨n / gI n 1, 1 / gI n 1⟩, false⟩
def wnS (x : Int) : Sg := if x = 0 then ⟨3, 0, 0, 0, false, 0, false, false, ⟨0, 0, 0, 0⟩, false, 0, 0, 0, 0⟩ else if x < 0 then ⟨1, -x, 4, 0, true, 0, false, false, ⟨0, 0, 0, 0⟩, false, 0, 0, 0, 0⟩ else ⟨1, x, 4, 0, false, 0, false, false, ⟨0, 0, 0, 0⟩, false, 0, 0, 0, 0⟩
def zAW {l : List Int} {k : Nat} {x : Int} (h : l[k]? = some x) : (l.take k).map bt1 ++ [bt1 x] = (l.take (k + 1)).map bt1 := by
 rw [jE, h]; simp
def zAX {l : List Int} {k : Nat} {x : Int} (h : l[k]? = some x) : (l.take k).map wnS ++ [wnS x] = (l.take (k + 1)).map wnS := by
 rw [jE, h]; simp
def zqm {α β : Type} (f : α -> β) (l : List α) (k : Nat) : ((l.take k).map f).length <= l.length := by rw [jU, jM]; omega
def zuq {α : Type} {l : List α} {k : Nat} {x : α} (h : l[k]? = some x) : l.take k ++ [x] = l.take (k + 1) := by rw [jE, h]; rfl
def F6 : List (List Sg) := [[wnS 3], [wnS 3, wnS 0], [wnS (-3)], [wnS (-3), wnS 0], [wnS 4], [wnS 4, wnS 0]]
def zAY : (decide (wcE mO [bt1 4] = 0) && decide (fmV mO (bt1 4) hAll = F6)) = true := by kernel_rfl
def zAZ : (decide (blE mO ([6, 4, 2, 2].map bt1) = 0) && decide (blV mO ([6, 4, 2, 2].map bt1) = [[6].map bt1, [4, 2].map bt1, [2].map bt1])) = true := by kernel_rfl
def zA0 : (decide (wisE mO ([4, 2, 6].map bt1) ([3, 4, 3].map wnS) = 0) && wisB mO ([4, 2, 6].map bt1) ([3, 4, 3].map wnS)) = true := by kernel_rfl
def wrQ (l : List Int) (h : Hb) (w : List Int) : Bool := decide (wrE mO (l.map bt1) h = 0) && decide (wrV mO (l.map bt1) h = w.map wnS)
def zA1 : wrQ [6, 2, 4, 6] ⟨false, false, true⟩ [3, 4, 4, 3] = true := by kernel_rfl
attribute [local irreducible] Pur yu yq Ex X Fn Imp LeV LeB FnO It yD FnW FnOW FnP FnD
attribute [local irreducible] wcE fmV blE blV wisE wisB wrE wrV bt1 wnS
def y9  : Fn prog 68 [] (mnA mO) := by
 refine xV func68 ntmps68 (fun g w d => ?_);refine gq ?_;refine k7 (.one (.cellA rfl rfl rfl rfl ty23 (xR ?_)));all_goals exact zR
def zk  : Fn prog 29 [] (hbA hAll) := by
 refine xV func29 ntmps29 (fun g w d => ?_);refine gq ?_;refine k7 (.one (.cellA rfl rfl rfl rfl ty32 (xR ?_)));all_goals exact zR
def zda (l : List Bt) (hl : l.length <= 4000000000) : Fn prog 16 [btsA l] (btsA l) := by
 refine xV func16 ntmps16 (fun g w d => ?_);refine gq ?_;refine yz btE [] ?_;refine ya ?_;refine xY ?_;refine yh ?_;refine xU ?_;refine xQ (xP (k := 3) rfl) ?_;refine gq ?_;all_goals rfl
def zbf (a b : List Bt) (hl : a.length <= 4000000000) : Fn prog 22 [btsA a, btsA b] (.bool (decide (a = b))) := by
 refine xV func22 ntmps22 (fun g w d => ?_);refine gd ?_ ?_<;>intro N
 ·have U : decide (a = b) = false := by rw [jT]; intro h; subst h; exact N rfl
  refine gq ?_;all_goals rw [U]
 have T : a.length = b.length := by omega
 apply yl;apply yg;apply ye;refine yh ?_;apply xS;refine zX (fun k => [(0, btsA a), (1, btsA b), (5, iv (k : Int))]) (fun k => []) (fun k => k <= a.length /\ a.take k = b.take k) a.length (fun k J => ?_) (hJ := by exact ⟨by omega, by simp⟩);obtain ⟨I, Z⟩ := J;refine gd ?_ ?_<;>intro H
 ·obtain ⟨x, hx⟩ : ∃ x, a[k]? = some x := ⟨_, lgg (by omega)⟩;have G : a[(k : Int).toNat]? = some x := by simpa using hx
  obtain ⟨y, V⟩ : ∃ y, b[k]? = some y := ⟨_, lgg (by omega)⟩;have E : b[(k : Int).toNat]? = some y := by simpa using V
  refine gq ?_;refine yW [17,18,19,20,21,22,23,24,25] [0,0,3,7,0,0,48,112,255] mo ?_;iterate 8 refine yb ?_
  refine yb ?_ (hs := by exact zeK (zr7 _ _) inferInstance TyK.h rfl rfl rfl rfl rfl);refine yA ?_;refine gd ?_ ?_<;>intro Q
  ·have U : decide (a = b) = false := by rw [jT]; intro h; subst h; rw [hx] at V; injection V with V; exact (by simpa using Q : ¬ x = y) V
   refine gq ?_;all_goals rw [U]
  refine gq ?_;refine yw (k + 1) (hJ := by exact ⟨by omega, by rw [← zuq hx, ← zuq V, Z, (by simpa using Q : x = y)]⟩) (hI := yk)
 ·have U : decide (a = b) = true := by
   have h1 : k = a.length := by omega
   rw [w7]; subst h1; rw [jH, T, jH] at Z; exact Z
  refine gq ?_;all_goals rw [U]
def yO (l : List Int) (hl : l.length <= 1000) (hr : ∀ x ∈ l, 0 <= x /\ x <= 1000) : Fn prog 69 [yc l] (btsA (l.map bt1)) := by
 have U : [] = (l.take 0).map bt1 := by simp
 refine xV func69 ntmps69 (fun g w d => ?_);apply ye;refine ya ?_;apply yE;refine yh ?_;iterate 2 apply yg
 refine xZ (yF btE 100 3 3 30 rfl rfl) ?_;apply yi;refine yh ?_;apply xS;refine zq (fun k => [(0, yc l), (3, .own 30), (4, iv (k : Int))]) (fun k => [(30, .row btE ((l.take k).map bt1) 100 3)]) l.length (fun k H => ?_);refine gd ?_ ?_<;>intro T
 ·obtain ⟨x, hx⟩ : ∃ x, l[k]? = some x := ⟨_, lgg (by omega)⟩;have Q : l[(k : Int).toNat]? = some x := by simpa using hx
  have N := hr x (j6 hx);have Z := zAW hx;have V : (l.take k).map bt1 ++ [⟨⟨x / gI x 1, 1 / gI x 1⟩, false⟩] = (l.take (k + 1)).map bt1 := by rw [← Z]; unfold bt1; rfl
  have J := zqm bt1 l k;refine gc (zfj x 1 (by omega) (by omega)) ?_;refine yz btE [⟨⟨x / gI x 1, 1 / gI x 1⟩, false⟩] ?_;refine gq ?_;refine yw (k + 1) (hI := yk)
 ·obtain rfl : k = l.length := by omega
  have I : (l.take l.length).map bt1 = l.map bt1 := by rw [jH]
  apply k8;apply ye;refine yL ?_;refine xU ?_;refine xQ (xP (k := 30) rfl) ?_;refine gq ?_;all_goals (exact j5 (fun z => btsA z) I)
set_option maxHeartbeats 1000000 in
def zaF (l : List Int) (hl : l.length <= 1000) (hr : ∀ x ∈ l, -1000 <= x /\ x <= 1000) : Fn prog 70 [yc l] (sgsA (l.map wnS)) := by
 have N : [] = (l.take 0).map wnS := by simp
 refine xV func70 ntmps70 (fun g w d => ?_);apply ye;refine ya ?_;apply yE;refine yh ?_;iterate 2 apply yg
 refine xZ (yF sgE 90 17 3 30 rfl rfl) ?_;apply yi;refine yh ?_;apply xS;refine zq (fun k => [(0, yc l), (3, .own 30), (4, iv (k : Int))]) (fun k => [(30, .row sgE ((l.take k).map wnS) 90 17)]) l.length (fun k hk => ?_);refine gd ?_ ?_<;>intro J
 ·obtain ⟨x, hx⟩ : ∃ x, l[k]? = some x := ⟨_, lgg (by omega)⟩;have I : l[(k : Int).toNat]? = some x := by simpa using hx
  have H := hr x (j6 hx);have Z := zAX hx;have G := zqm wnS l k;refine gd ?_ ?_<;>intro V
  ·have U : wnS x = ⟨3, 0, 0, 0, false, 0, false, false, ⟨0, 0, 0, 0⟩, false, 0, 0, 0, 0⟩ := by unfold wnS; rw [j4 V]
   rw [U] at Z;refine gq ?_;refine yz sgE [⟨3, 0, 0, 0, false, 0, false, false, ⟨0, 0, 0, 0⟩, false, 0, 0, 0, 0⟩] ?_;refine gq ?_;refine yw (k + 1) (hI := yk)
  ·have Q := Z;refine gd ?_ ?_<;>intro T
   ·have U : wnS x = ⟨1, -x, 4, 0, true, 0, false, false, ⟨0, 0, 0, 0⟩, false, 0, 0, 0, 0⟩ := by unfold wnS; rw [j3 V, j4 T]
    rw [U] at Z;refine gq ?_;refine yz sgE [⟨1, -x, 4, 0, true, 0, false, false, ⟨0, 0, 0, 0⟩, false, 0, 0, 0, 0⟩] ?_;refine gq ?_;refine yw (k + 1) (hI := yk)
   ·have U : wnS x = ⟨1, x, 4, 0, false, 0, false, false, ⟨0, 0, 0, 0⟩, false, 0, 0, 0, 0⟩ := by unfold wnS; rw [j3 V, j3 (show ¬ x < 0 by omega)]
    rw [U] at Z;refine gq ?_;refine yz sgE [⟨1, x, 4, 0, false, 0, false, false, ⟨0, 0, 0, 0⟩, false, 0, 0, 0, 0⟩] ?_;refine gq ?_;refine yw (k + 1) (hI := yk)
 ·obtain rfl : k = l.length := by omega
  have E : (l.take l.length).map wnS = l.map wnS := by rw [jH]
  apply k8;apply ye;refine yL ?_;refine xU ?_;refine xQ (xP (k := 30) rfl) ?_;refine gq ?_;all_goals (exact j5 (fun z => sgsA z) E)
def zex (l : List Bt) (h : Hb) (ws : List Int) (hl : l.length <= 4000000000) (Z : ws.length <= 1000) (hr : ∀ x ∈ ws, -1000 <= x /\ x <= 1000) (hv : (wrV mO l h).length <= 4000000000) : Fn prog 71 [btsA l, hbA h, yc ws] (.bool (decide (wrE mO l h = 0) && decide (wrV mO l h = ws.map wnS))) := by
 refine xV func71 ntmps71 (fun g w d => ?_);refine gq ?_;refine yW [7,8,9,10,11,12,13,14,15] [0,0,0,7,15,31,31,63,255] mo ?_;refine yH y9 ?_;iterate 2 refine yb ?_
 refine yH (za4 mO l h hl) ?_;iterate 5 refine yb ?_
 refine yA ?_;apply yE;iterate 2 refine ya ?_
 refine xX 2 ?_;refine gq ?_;refine kK (zaF ws Z hr) ?_;refine kK (zw (wrV mO l h) (ws.map wnS) hv) ?_;refine ge ?_;all_goals exact zR
def zfR (l : List Bt) (h : Hb) (hl : l.length <= 4000000000) : Fn prog 89 [btsA l, hbA h] (.bool (decide (wrE mO l h = 18) && decide (((wrV mO l h).length : Int) = 0))) := by
 refine xV func89 ntmps89 (fun g w d => ?_);refine gq ?_;refine yW [5,6,7,8,9,10,11,12,13] [0,0,0,7,15,31,31,63,255] mo ?_;refine yH y9 ?_;iterate 2 refine yb ?_
 refine yH (za4 mO l h hl) ?_;iterate 5 refine yb ?_
 refine yA ?_;apply yE;iterate 2 refine ya ?_
 refine xX 2 ?_;refine ym ?_;iterate 3 refine xW ?_
 refine ge ?_;all_goals exact zR
def zyf : Fn prog 67 [mnA mO, btA (bt1 4), hbA hAll] (.tup [zb7 F6, iv 0]) := by
 have h := zfq mO (bt1 4) hAll;have e := zAY;rw [j7, w7, w7] at e;rw [e.1, e.2] at h; exact h
def zyg : Fn prog 48 [mnA mO, btsA ([6, 4, 2, 2].map bt1)] (.tup [blsA [[6].map bt1, [4, 2].map bt1, [2].map bt1], iv 0]) := by
 have h := ziJ mO ([6, 4, 2, 2].map bt1) (by decide);have e := zAZ;rw [j7, w7, w7] at e;rw [e.1, e.2] at h; exact h
def zyh : Fn prog 20 [mnA mO, btsA ([4, 2, 6].map bt1), sgsA ([3, 4, 3].map wnS)] (.tup [.bool true, iv 0]) := by
 have h := zin mO ([4, 2, 6].map bt1) ([3, 4, 3].map wnS) (by decide) (by decide);have e := zA0;rw [j7, w7] at e;rw [e.1, e.2] at h; exact h
def zlT {l : List Int} {h : Hb} {w : List Int} (e : wrQ l h w = true) (hl : l.length <= 1000) (Z : w.length <= 1000) (hr : ∀ x ∈ w, -1000 <= x /\ x <= 1000) : Fn prog 71 [btsA (l.map bt1), hbA h, yc w] (.bool true) := by
 unfold wrQ at e;have e2 := e;rw [j7, w7, w7] at e2;have c := zex (l.map bt1) h w (by rw [jU]; omega) Z hr (by rw [e2.2, jU]; omega);rw [e] at c; exact c
set_option maxHeartbeats 4000000 in
set_option maxRecDepth 100000 in
def zK  : Fn prog 15 [] (.bool true) := by
 have Z : ([4].map bt1)[(0 : Int).toNat]? = some (bt1 4) := rfl;have V : F6[(5 : Int).toNat]? = some [wnS 4, wnS 0] := rfl;have U : ([[6].map bt1, [4, 2].map bt1, [2].map bt1] : List (List Bt))[(1 : Int).toNat]? = some ([4, 2].map bt1) := rfl;refine xV func15 ntmps15 (fun g w d => ?_);refine gq ?_;refine yW [1,2,7,8,9,10,11,12,13,14,15,16] [0,0,3,7,15,7,63,127,255,255,511,2047] mo ?_;refine yH y9 ?_;refine ChM.step rfl rfl rfl (zwm (enc := intE) (l := [4]) sl46 ty3 ze3) rfl ?_;refine yH (yO [4] (by decide) (by decide)) ?_;iterate 2 refine yb ?_
 refine yH zk ?_;refine yH zyf ?_;iterate 5 refine yb ?_
 refine yA ?_;apply yE;refine yM y9 ?_;refine kF (yo (enc := intE) (l := [6, 4, 2, 2]) sl46 ty3 ze3 (by decide) rfl rfl rfl rfl (by decide) (by decide) (fun _ => rfl) rfl) rfl rfl ?_;refine yM (yO [6, 4, 2, 2] (by decide) (by decide)) ?_;refine gc zyg ?_;refine yM y9 ?_;refine kF (yo (enc := intE) (l := [4, 2, 6]) sl46 ty3 ze3 (by decide) rfl rfl rfl rfl (by decide) (by decide) (fun _ => rfl) rfl) rfl rfl ?_;refine yM (yO [4, 2, 6] (by decide) (by decide)) ?_;refine kF (yo (enc := intE) (l := [3, 4, 3]) sl46 ty3 ze3 (by decide) rfl rfl rfl rfl (by decide) (by decide) (fun _ => rfl) rfl) rfl rfl ?_;refine yM (zaF [3, 4, 3] (by decide) (by decide)) ?_;refine gc zyh ?_;refine yW [0,33,34,35,36,37,38,39,40,41,42,43,44,45,46,47,48,49,50,51,52,53,54,55,56,57,58,59,60,61,62,63,64,65,66,67,68,69,70,71,72,73,74,75,76,77,78] [0,1,3,7,15,31,63,127,255,511,1023,255,2303,8191,16383,32767,65535,131071,262143,524287,1048575,2097151,4194303,8388607,16777215,33554431,67108863,134217727,33554431,301989887,1073741823,2147483647,4294967295,8589934591,17179869183,34359738367,68719476735,137438953471,274877906943,549755813887,1099511627775,2199023255551,1099511627775,1099511627775,17592186044415,35184372088831,70368744177663] mo ?_;iterate 3 refine yb ?_
 iterate 3 refine k6 ?_
 iterate 2 refine yb ?_
 iterate 3 refine k6 ?_
 refine ChM.gs (yo (enc := intE) (l := [4, 0]) sl46 ty3 ze3 (by decide) rfl rfl rfl rfl (by decide) (by decide) (fun _ => rfl) rfl) ?_;refine kJ (zaF [4, 0] (by decide) (by decide)) ?_;refine kJ (zw [wnS 4, wnS 0] ([4, 0].map wnS) (by decide)) ?_;iterate 2 refine yb ?_
 iterate 2 refine k6 ?_
 iterate 2 refine yb ?_
 iterate 3 refine k6 ?_
 iterate 2 refine yb ?_
 iterate 3 refine k6 ?_
 refine ChM.gs (yo (enc := intE) (l := [4, 2]) sl46 ty3 ze3 (by decide) rfl rfl rfl rfl (by decide) (by decide) (fun _ => rfl) rfl) ?_;refine kJ (yO [4, 2] (by decide) (by decide)) ?_;refine kJ (zbf ([4, 2].map bt1) ([4, 2].map bt1) (by decide)) ?_;iterate 2 refine yb ?_
 iterate 2 refine k6 ?_
 iterate 2 refine yb ?_
 refine k6 ?_;iterate 2 refine yb ?_
 refine ChM.gs (yo (enc := intE) (l := [6, 2, 4, 6]) sl46 ty3 ze3 (by decide) rfl rfl rfl rfl (by decide) (by decide) (fun _ => rfl) rfl) ?_;refine kJ (yO [6, 2, 4, 6] (by decide) (by decide)) ?_;refine k6 ?_;refine ChM.gs (yo (enc := intE) (l := [3, 4, 4, 3]) sl46 ty3 ze3 (by decide) rfl rfl rfl rfl (by decide) (by decide) (fun _ => rfl) rfl) ?_;refine kJ (zlT zA1 (by decide) (by decide) (by decide)) ?_;iterate 2 refine yb ?_
 refine yA ?_;refine gq ?_;all_goals (first | rfl | (simp [F6]; done) | simp)
end
section
def fE (m : Mn) (v : Int) : Int := (yp m v).N * 8 / (yp m v).D
def feOk (m : Mn) (v : Int) : Bool := decide ((yp m v).N * 8 = fE m v * (yp m v).D) && decide (1 <= fE m v) && decide (fE m v <= 648) && decide (ckT (yp m v) = 0) && decide ((yp m v).D <= 8) && decide ((yp m v).N <= 81) && decide (1 <= (yp m v).N) &&
 (decide (v = 8) || decide (fE m v = m.p v * fE m (v + 1))) && (decide (¬ v = 8) || decide (fE m v = 1)) && (decide (¬ v = 1) || decide (128 <= fE m v)) && decide (m.p v <= 3)
theorem zqn : zgc feOk = true := by kernel_rfl
structure FE (m : Mn) (v : Int) : Prop where
 e : (yp m v).N * 8 = fE m v * (yp m v).D
 b1 : 1 <= fE m v
 b2 : fE m v <= 648
 ck : ckT (yp m v) = 0
 d : (yp m v).D <= 8
 n : (yp m v).N <= 81
 n1 : 1 <= (yp m v).N
 p : v = 8 \/ fE m v = m.p v * fE m (v + 1)
 l : ¬ v = 8 \/ fE m v = 1
 g : ¬ v = 1 \/ 128 <= fE m v
 p3 : m.p v <= 3
def zyi {m : Mn} {v : Int} (hm : ckM m = 0) (Z : 1 <= v) (V : v <= 8) : FE m v := by
 grind [zbQ, zqn, feOk, FE]
end
end Go.Rse
