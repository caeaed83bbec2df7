/-
  Walks.
-/
import Derived.Test.YtbopkhoalndflaaGreatDoorVJDurs0
set_option linter.all false
namespace Go.Rse
open Go Go.Proofs Go.Proofs.Tryz
section
attribute [local irreducible] Pur yu yq Ex X Fn Imp LeV LeB FnO It yD
def tfx (t : Tm) (l : List Tm) : Int := if l.findIdx (fun u => decide (t = u)) < l.length then (l.findIdx (fun u => decide (t = u)) : Int) else -1
def zr3 {t : Tm} {l : List Tm} {k : Nat} {v : Tm} (hv : l[k]? = some v) (V : t = v) (hJ : ∀ i u, i < k -> l[i]? = some u -> ¬ t = u) : tfx t l = k := by
 have Z : k < l.length := (j1.1 hv).1;have U : l[k] = v := (j1.1 hv).2;have : l.findIdx (fun u => decide (t = u)) = k := (List.findIdx_eq Z).2 ⟨by rw [U]; simpa using V, fun j T => by simpa using hJ j _ T (lgg (by omega))⟩;unfold tfx; rw [this, j4 Z]
def zp7 {t : Tm} {l : List Tm} (hJ : ∀ i u, i < l.length -> l[i]? = some u -> ¬ t = u) : tfx t l = -1 := by
 have : l.findIdx (fun u => decide (t = u)) = l.length := u8.2 fun x hx => by
  obtain ⟨i, hi⟩ := jP.1 hx;simpa using hJ i x (j1.1 hi).1 hi
 unfold tfx; rw [j3 (by omega)]
def zr4 (t : Tm) (l : List Tm) : decide (0 <= tfx t l) = decide (t ∈ l) := by
 by_cases h : t ∈ l
 ·have : l.findIdx (fun u => decide (t = u)) < l.length := List.findIdx_lt_length_of_exists ⟨t, h, by simp⟩;simp only [tfx, j4 this, h]; simp
 ·have V : l.findIdx (fun u => decide (t = u)) = l.length := u8.2 fun u Z => j9 fun e => h (e ▸ Z)
  have : ¬ l.findIdx (fun u => decide (t = u)) < l.length := by omega
  simp only [tfx, j3 this, h]; simp
def zcF {α : Type} {l : List α} {j : Nat} {x : α} (h : l[j]? = some x) : l.take j ++ [x] = l.take (j + 1) := by
 rw [jE, h]; rfl
def zjL (m : Mn) : (perfL m).length <= 4 := by
 unfold perfL;refine jQ (wM _ _) ?_;simp
attribute [local irreducible] tfx perfL
def zbx (l : List Tm) (t : Tm) (hl : l.length <= 4000000000) : Fn prog 217 [tmsA l, tmA t] (iv (tfx t l)) := by
 refine xV func217 ntmps217 (fun g w d => ?_);apply ye;refine zF ?_;refine yh ?_;apply yg;apply ye;refine yy ?_;apply xS;refine zX (fun k => [(0, tmsA l), (3, .ptr 3 0 0 0), (7, iv l.length), (8, iv (k : Int))]) (fun k => [(3, .box (tmE t) 83)]) (fun k => k <= l.length /\ ∀ i u, i < k -> l[i]? = some u -> ¬ t = u) l.length (fun k T => ?_) (hJ := by exact ⟨by omega, fun i u h => absurd h (wN i)⟩) (h0 := yd);obtain ⟨Q, Z⟩ := T;refine gd ?_ ?_<;>intro N
 ·obtain ⟨v, hv⟩ : ∃ v, l[k]? = some v := ⟨_, lgg (by omega)⟩;have J : l[(k : Int).toNat]? = some v := by simpa using hv
  refine gq ?_;refine yW [11,12,13,14,15,16] [0,0,0,6,14,31] mo ?_;iterate 6 refine yb ?_
  refine yA ?_;refine gd ?_ ?_<;>intro V
  ·refine gq ?_;all_goals (congr 1; exact (zr3 hv V Z).symm)
  refine gq ?_
  refine yw (k + 1) (hJ := by
   refine ⟨by omega, fun i u hi U => ?_⟩;rcases jZ.1 hi with h | h
   ·exact Z i u h U
   ·subst h; rw [hv] at U; injection U with U; subst U; exact V)
 ·refine gq ?_;all_goals (congr 1; exact (zp7 (fun i u hi => Z i u (by omega))).symm)
def zn (l : List Tm) (t : Tm) (hl : l.length <= 4000000000) : Fn prog 168 [tmsA l, tmA t] (.bool (decide (t ∈ l))) := by
 refine xV func168 ntmps168 (fun g w d => ?_);refine gc (zbx l t hl) ?_;all_goals (congr 1; exact zr4 t l)
def zby (a b : List Tm) (hl : a.length <= 4000000000) : Fn prog 130 [tmsA a, tmsA b] (.bool (decide (a = b))) := by
 refine xV func130 ntmps130 (fun g w d => ?_);refine gd ?_ ?_<;>intro N
 ·have U : decide (a = b) = false := by rw [jT]; intro h; subst h; exact N rfl
  refine gq ?_;all_goals rw [U]
 have T : a.length = b.length := by omega
 apply yl;apply yg;apply ye;refine yy ?_;apply xS;refine zX (fun k => [(0, tmsA a), (1, tmsA b), (12, iv a.length), (13, iv (k : Int))]) (fun k => []) (fun k => k <= a.length /\ a.take k = b.take k) a.length (fun k J => ?_) (hJ := by exact ⟨by omega, by simp⟩) (h0 := yd);obtain ⟨I, Z⟩ := J;refine gd ?_ ?_<;>intro H
 ·obtain ⟨x, hx⟩ : ∃ x, a[k]? = some x := ⟨_, lgg (by omega)⟩;have G : a[(k : Int).toNat]? = some x := by simpa using hx
  obtain ⟨y, V⟩ : ∃ y, b[k]? = some y := ⟨_, lgg (by omega)⟩;have E : b[(k : Int).toNat]? = some y := by simpa using V
  refine gq ?_;refine yW [16,17,18,19,20,21,22,23,24] [0,0,3,7,0,0,48,112,255] mo ?_;iterate 9 refine yb ?_
  refine yA ?_;refine gd ?_ ?_<;>intro Q
  ·have U : decide (a = b) = false := by rw [jT]; intro h; subst h; rw [hx] at V; injection V with V; exact Q V
   refine gq ?_;all_goals rw [U]
  refine gq ?_;refine yw (k + 1) (hJ := by exact ⟨by omega, by rw [← zcF hx, ← zcF V, Z, Q]⟩)
 ·have U : decide (a = b) = true := by
   have h1 : k = a.length := by omega
   rw [w7]; subst h1; rw [jH, T, jH] at Z; exact Z
  refine gq ?_;all_goals rw [U]
def zZ (l : List Ite) (hl : l.length <= 4000000) : FnO prog 193 [itsA l] [] [] (.own 5) [(5, .row itE l 183 12)] := by
 refine kQ (ts := [(0, itsA l)]) (rv := [.tmp 2]) (n := 8) (cs := []) (by kernel_rfl) func193 rfl ntmps193 rfl rfl (by simp) rfl rfl rfl rfl (fun g w d vs => ?_);apply ye;refine yh ?_;apply yg;apply ye;refine ya ?_;refine Ex.eqNil rfl zht rfl (fun b U => ?_);refine gd ?_ ?_<;>intro Z
 ·have V := U Z;subst V;subst Z;apply ye;refine yh ?_;refine xU ?_;refine zn3.imp (yF itE 183 12 2 5 rfl rfl) ?_;refine zn3.mk (ts := [(2, .own 5)]) (.inr rfl) (yd) (.one (.tmp rfl (xR rfl)))
 refine gq ?_;refine yz itE [] ?_;refine ya ?_;refine xY ?_;refine yh ?_;refine xU ?_;refine zn3.mk (ts := [(2, .own 5)]) (.inr rfl) (yd) (.one (.tmp rfl (xR rfl)))
def zcG (m : Mn) : Fn prog 257 [.nils, .fn 258 [.ept (fun _ : Unit => mnE m) () 0]] (yc (perfL m)) := by
 have T := zjL m;refine xV func257 ntmps257 (fun g w d => ?_);apply ye;refine zeL ?_;refine yh ?_;iterate 2 apply yg
 refine xZ (zbZ intE 3 1 2 39 46 rfl rfl) ?_;apply yi;refine yh ?_;apply xS;have Q : [] = (perfL m).take 0 := by simp
 have V : (perfL m).take (zfp m).length = perfL m := by unfold zfp; rw [jU, jH]
 refine X.range (sl := [2]) (fun j => ([.ptr 2 0 0 0], [(2, .box [.own 39] 46), (39, .row intE ((perfL m).take j) 3 1)])) (fun j => True) 900001 900002 rfl rfl (by decide) (fun j zs Z => by obtain ⟨i, _, rfl⟩ := zct Z; rfl) (zdw m) trivial rfl rfl (by decide) (wF _) (by simp) (fun j zs Z => by obtain ⟨i, _, rfl⟩ := zct Z; rfl) (fun _ => rfl) rfl rfl (fun l o us => yd) (trivial) (fun j zs Z hJ l ready busy rb vs g w H N => ?_) (fun hJ => ?_)
 ·have U := zct Z;obtain ⟨i, hi, rfl⟩ := U;have J := zcF hi;have I : ((perfL m).take j).length <= 1000 := by simp; omega
  apply yi;refine yh ?_;refine ⟨rfl, rfl, ?_⟩;refine gq ?_;refine yz intE [_] ?_;iterate 2 refine xY ?_
  apply k9;refine ⟨[.ptr 2 0 0 0], [(2, .box [.own 39] 46), (39, .row intE ((perfL m).take (j + 1)) 3 1)], yd, rfl, trivial⟩
 apply ye;refine yL ?_;refine xU ?_;refine xQ (xP (k := 39) rfl) ?_;refine gq ?_;all_goals (first | exact j5 yc V | rfl)
def zeq (m : Mn) : Fn prog 195 [.fn 258 [.ept (fun _ : Unit => mnE m) () 0]] (yc (perfL m)) := by
 refine xV func195 ntmps195 (fun g w d => ?_);refine gc (zcG m) ?_;all_goals exact zR
def zdj (m : Mn) : Fn prog 141 [mnA m] (.tup [yc (if ckM m = 0 then perfL m else []), iv (ckM m)]) := by
 refine xV func141 ntmps141 (fun g w d => ?_);refine gc (zaV m) ?_;refine gd ?_ ?_<;>intro Z
 ·apply ye;refine yy ?_;refine xU ?_;refine xQ (yd (ts := [(2, yc []), (3, iv (ckM m))]) (hs := [])) ?_;refine yj ?_ ?_;all_goals (first | (rw [j3 Z]; done) | rfl)
 refine gq ?_;refine yM (zeu m) ?_;refine gc (zeq m) ?_;refine yj ?_ ?_;all_goals (first | (rw [j4 Z]; done) | exact j5 (AV.int .i64) Z.symm)
end
section
attribute [local irreducible] Pur yu yq Ex X Fn Imp LeV LeB FnO It yD
structure Sp where
 Value : Int
 Rest : Bool
 Color : Bool
 Dot : Bool
 Way : Int
 deriving DecidableEq
def spE : Sp -> List AV := fun s => [iv s.Value, .bool s.Rest, .bool s.Color, .bool s.Dot, iv s.Way]
abbrev spA (s : Sp) : AV := .agg (spE s)
abbrev spsA (l : List Sp) : AV := .sl spE l
def spOf (v w : Int) : Sp := ⟨v, decide (w = 8), decide (w = 5) || decide (w = 6) || decide (w = 7), decide (w = 2) || decide (w = 6), w⟩
def zr5 (m : Mn) {v : Int} (Z : 1 <= v) (n : Nat) : (wdL m v n).length <= 81 := by
 have V := zeX m v (5 - v).toNat v (yp m v) false;have U : 3 ^ (5 - v).toNat <= 3 ^ 4 := uX (by decide) (by omega);have T : 3 ^ 4 = 81 := rfl;unfold wdL
 repeat' split
 all_goals first | (simp; done) | omega
def alI (m : Mn) (t : Tm) (v : Int) : Nat -> List Sp
 | 0 => []
 | n + 1 => if n ≠ 0 /\ t ∈ wdL m v n then alI m t v n ++ [spOf v (n : Int)] else alI m t v n
def alO (m : Mn) (t : Tm) : Nat -> List Sp
 | 0 => []
 | k + 1 => alO m t k ++ alI m t (1 + (k : Int)) 9
def zhP (m : Mn) (t : Tm) (v : Int) : ∀ n, (alI m t v n).length <= n
 | 0 => jC _
 | n + 1 => by
  have := zhP m t v n;unfold alI; split
  ·simp; omega
  ·omega
theorem zhQ (m : Mn) (t : Tm) : ∀ k, (alO m t k).length <= 9 * k
 | 0 => jC _
 | k + 1 => by
  have Z := zhQ m t k;have V := zhP m t (1 + (k : Int)) 9;unfold alO; simp; omega
theorem znt {m : Mn} {t : Tm} {v : Int} {n : Nat} (Z : n ≠ 0) (h : t ∈ wdL m v n) (X : List Sp) : X ++ alI m t v n ++ [spOf v (n : Int)] = X ++ alI m t v (n + 1) := by
 conv => rhs; unfold alI
 rw [j4 ⟨Z, h⟩, vG]
theorem zmz {m : Mn} {t : Tm} {v : Int} {n : Nat} (h : n = 0 \/ ¬ t ∈ wdL m v n) (X : List Sp) : X ++ alI m t v n = X ++ alI m t v (n + 1) := by
 conv => rhs; unfold alI
 rw [j3 (fun e => by rcases h with h | h; exact e.1 h; exact h e.2)]
def allE (m : Mn) (t : Tm) : List Sp := if bthE m t = 0 then alO m t 8 else []
def fnT : fnTy prog 213 := ⟨_, _, _, Tryz.underlying213⟩
def zr6 (j : Nat) (Z : j < 9) : (j = 0 /\ (zum.drop ((j : Int).toNat * 4)).take 4 = [.bool false, .bool false, .bool false, .nilf]) ∨
 (j ≠ 0 /\ ∃ f, (zum.drop ((j : Int).toNat * 4)).take 4 = [.bool (decide ((j : Int) = 8)), .bool (decide ((j : Int) = 5) || decide ((j : Int) = 6) || decide ((j : Int) = 7)), .bool (decide ((j : Int) = 2) || decide ((j : Int) = 6)), .fn f []] ∧
  ∀ (m : Mn) (v : Int), ckM m = 0 -> 1 <= v -> v <= 8 -> Fn prog f [mnA m, iv v] (tmsA (wdL m v j))) := by
 rcases j with _ | _ | _ | _ | _ | _ | _ | _ | _ | j
 ·exact .inl ⟨rfl, rfl⟩
 ·exact .inr ⟨by decide, _, rfl, fun m v a b c => zix m v a b c⟩
 ·exact .inr ⟨by decide, _, rfl, fun m v a b c => ziy m v a b c⟩
 ·exact .inr ⟨by decide, _, rfl, fun m v a b c => zkO m v a b c⟩
 ·exact .inr ⟨by decide, _, rfl, fun m v a b c => ziz m v a b c⟩
 ·exact .inr ⟨by decide, _, rfl, fun m v a b c => ziA m v a b c⟩
 ·exact .inr ⟨by decide, _, rfl, fun m v a b c => ziB m v a b c⟩
 ·exact .inr ⟨by decide, _, rfl, fun m v a b c => ziC m v a b c⟩
 ·exact .inr ⟨by decide, _, rfl, fun m v a b c => ziD m v a b c⟩
 ·omega
attribute [local irreducible] yp durT mulV wdL alI alO bthE tfx
set_option maxHeartbeats 4000000 in
def zlN (m : Mn) (t : Tm) : Fn prog 120 [mnA m, tmA t] (.tup [spsA (allE m t), iv (bthE m t)]) := by
 refine xV func120 ntmps120 (fun g w d => ?_);refine gc (zkM m t) ?_;refine gd ?_ ?_<;>intro V
 ·have N : [] = allE m t := by unfold allE; rw [j3 V]
  apply ye;refine yy ?_;refine xU ?_;refine xQ (yd (ts := [(4, spsA []), (5, iv (bthE m t))]) (hs := [])) ?_;refine yj ?_ ?_;all_goals (first | exact j5 spsA N | rfl | exact j5 (AV.int .i64) V.symm)
 apply yl;apply ye;refine yh ?_;iterate 2 apply yg
 refine xZ (yF spE 155 5 7 7 rfl rfl) ?_;apply yi;refine yh ?_;apply xS;have E : [] = alO m t 0 := by unfold alO; rfl
 have J := zqd V;refine zq (fun k => [(2, .ptr 2 0 0 0), (3, .ptr 3 0 0 0), (7, .own 7), (8, iv (1 + (k : Int)))]) (fun k => [(2, .box (mnE m) 23), (3, .box (tmE t) 83), (7, .row spE (alO m t k) 155 5)]) 8 (fun k hk => ?_);refine gd ?_ ?_<;>intro xT
 ·refine gq ?_;refine yM zkP ?_;refine yh ?_;apply xS;have x4 : alO m t k = alO m t k ++ alI m t (1 + (k : Int)) 0 := by unfold alI; simp
  have x3 := zhQ m t k;refine zq (fun j => [(2, .ptr 2 0 0 0), (3, .ptr 3 0 0 0), (7, .own 7), (8, iv (1 + (k : Int))), (21, .agg zum), (22, iv (j : Int))]) (fun j => [(2, .box (mnE m) 23), (3, .box (tmE t) 83), (7, .row spE (alO m t k ++ alI m t (1 + (k : Int)) j) 155 5)]) 9 (fun j hk => ?_);refine gd ?_ ?_<;>intro x2
  ·have x1 := zhP m t (1 + (k : Int)) j;apply yl;apply yg;apply xS;apply yg;rcases zr6 j (by omega) with ⟨U, Z⟩ | ⟨U, fw, Z, hF⟩
   ·apply yi;refine ya ?_;refine ya (hs := zz ArK.h TyK.h rfl rfl (by omega) (by omega) Z) ?_;refine gq ?_;refine yW [26,27,28,29,30,31,32,33,34,35,36,37] [0,1,3,7,15,31,15,15,255,15,1023,2047] mo ?_;(iterate 2 refine yb ?_);refine ChM.step rfl rfl rfl (xO (zmW fnT rfl rfl)) rfl ?_;refine yb ?_;(iterate 6 refine ChM.gn (.any) ?_);refine ChM.gn (.bool false) ?_;refine yb ?_;refine yA ?_;refine gd ?_ ?_<;>intro I
    ·simp at I
    have T := zmz (m := m) (t := t) (v := 1 + (k : Int)) (n := j) (.inl U) (alO m t k);refine gq ?_;refine yw (j + 1) (hI := yk)
   ·apply yi;refine ya ?_;refine ya (hs := zz ArK.h TyK.h rfl rfl (by omega) (by omega) Z) ?_;refine gq ?_;refine yW [26,27,28,29,30,31,32,33,34,35,36,37] [0,1,3,7,15,31,15,15,255,15,1023,2047] mo ?_;(iterate 2 refine yb ?_);refine ChM.step rfl rfl rfl (xO (zq0 fnT rfl rfl)) rfl ?_;refine yb ?_;(iterate 4 refine k6 ?_);refine kJ (hF m (1 + (k : Int)) J.1 (by omega) (by omega)) ?_;refine k6 ?_;refine kJ (zn (wdL m (1 + (k : Int)) j) t (by have := zr5 m (show 1 <= 1 + (k : Int) by omega) j; omega)) ?_;refine yb ?_;refine yA ?_;refine gd ?_ ?_<;>intro Q
    ·have T := znt (v := 1 + (k : Int)) U Q.2 (alO m t k);refine gq ?_;refine yz spE [spOf (1 + (k : Int)) (j : Int)] ?_;refine gq ?_;refine yw (j + 1) (hI := yk)
    ·have T := zmz (m := m) (t := t) (v := 1 + (k : Int)) (n := j) (.inr (by rcases Q with h | h; exact absurd h (by decide); exact h)) (alO m t k);refine gq ?_;refine yw (j + 1) (hI := yk)
  ·have H : j = 9 := by omega
   subst H;have T : alO m t k ++ alI m t (1 + (k : Int)) 9 = alO m t (k + 1) := by conv => rhs; unfold alO
   refine gq ?_;refine yw (k + 1) (hI := yk)
 ·have G : k = 8 := by omega
  subst G;have N : alO m t 8 = allE m t := by unfold allE; rw [j4 V]
  apply k8;apply ye;refine yy ?_;refine xU ?_;refine xQ (xP (k := 7) rfl) ?_;refine yj ?_ ?_;all_goals (first | exact j5 spsA N | rfl | exact j5 (AV.int .i64) V.symm)
end
section
structure Bt where
 Dur : Tm
 Rest : Bool
 deriving DecidableEq
instance : Inhabited Bt := ⟨⟨⟨0, 0⟩, false⟩⟩
def btE : Bt -> List AV := fun b => [iv b.Dur.N, iv b.Dur.D, .bool b.Rest]
abbrev btA (b : Bt) : AV := .agg (btE b)
abbrev btsA (l : List Bt) : AV := .sl btE l
instance : EncK btE 3 := ⟨fun _ => rfl⟩
def zr7 (a b : Bt) : eqL (btE a) (btE b) = some (decide (a = b)) := by
 obtain ⟨⟨a1, a2⟩, a3⟩ := a;obtain ⟨⟨b1, b2⟩, b3⟩ := b;refine (ze rfl (ze rfl (ze rfl rfl))).trans ?_;simp [x5, x9]
structure Hb where
 Color : Bool
 Dots : Bool
 Alter : Bool
 deriving DecidableEq
def hbE : Hb -> List AV := fun h => [.bool h.Color, .bool h.Dots, .bool h.Alter]
abbrev hbA (h : Hb) : AV := .agg (hbE h)
def sgsE : List Sg -> List AV := fun l => [sgsA l]
abbrev zb7 (L : List (List Sg)) : AV := .sl sgsE L
def zdZ : List (List Sg) -> List AV := fun l => [zb7 l]
abbrev chsA (L : List (List (List Sg))) : AV := .sl zdZ L
structure Fo where
 v : Int
 c : Bool
 d : Bool
 deriving DecidableEq
instance : Inhabited Fo := ⟨⟨0, false, false⟩⟩
def foE : Fo -> List AV := fun f => [iv f.v, .bool f.c, .bool f.d]
abbrev foA (f : Fo) : AV := .agg (foE f)
def zr8 (a b : Fo) : eqL (foE a) (foE b) = some (decide (a = b)) := by
 cases a; cases b;refine (ze rfl (ze rfl (ze rfl rfl))).trans ?_;simp [x9]
def b2i (b : Bool) : Int := if b then 1 else 0
def foN (f : Fo) : Int := 4 * f.v + 2 * b2i f.c + b2i f.d
def zba (b : Bool) : 0 <= b2i b /\ b2i b <= 1 := by cases b <;> decide
theorem zr9 {a b : Bool} (h : b2i a = b2i b) : a = b := by all_goals grind [b2i]
theorem znu {f g : Fo} (h : foN f = foN g) : f = g := by
 have Z := zba f.c;have V := zba f.d;have U := zba g.c;have T := zba g.d;unfold foN at h;have e1 : f.v = g.v := by omega
 have e2 : b2i f.c = b2i g.c := by omega
 have e3 : b2i f.d = b2i g.d := by omega
 cases f; cases g
 grind [zr9]
def btC (b : Bt) : Int := if ckT b.Dur = 0 then (if b.Dur.N = 0 then 2 else 0) else ckT b.Dur
def btF : List Bt -> Int
 | [] => 0
 | b :: r => if btC b = 0 then btF r else btC b
def wcE (m : Mn) (l : List Bt) : Int := if ckM m = 0 then btF l else ckM m
theorem zkH : ∀ {l : List Bt}, btF l = 0 ↔ ∀ b ∈ l, btC b = 0
 | [] => by simp [btF]
 | b :: r => by
  unfold btF;split
  ·rename_i h; rw [zkH (l := r)]; simp [h]
  simp_all
def ziq {l : List Bt} {i : Nat} {b : Bt} (hi : l[i]? = some b) (h : btF (l.take i) = 0) : btF (l.take (i + 1)) = btC b := by
 have key : ∀ (l r : List Bt), btF l = 0 -> btF (l ++ r) = btF r := by
  intro l r
  induction l with
  | nil => intro _; rfl
  | cons x l ih =>
   intro hx;unfold btF at hx;split at hx
   ·rename_i h0; show (if btC x = 0 then btF (l ++ r) else btC x) = _; rw [j4 h0]; exact ih hx
   ·exact absurd hx ‹_›
 grind [List.take_add_one, btF]
theorem zir {l : List Bt} {i : Nat} (h : ¬ btF (l.take i) = 0) : btF l = btF (l.take i) := by
 have key : ∀ (l r : List Bt), ¬ btF l = 0 -> btF (l ++ r) = btF l := by
  intro l r
  induction l with
  | nil => intro h; exact absurd rfl h
  | cons x l ih =>
   intro hx;unfold btF at hx;split at hx
   ·rename_i h0;show (if btC x = 0 then btF (l ++ r) else btC x) = (if btC x = 0 then btF l else btC x);rw [j4 h0, j4 h0]; exact ih hx
   ·rename_i h0;show (if btC x = 0 then btF (l ++ r) else btC x) = (if btC x = 0 then btF l else btC x);rw [j3 h0, j3 h0]
 grind [List.take_append_drop]
def usQ (s : Sp) (h : Hb) : Bool := if s.Way = 5 \/ s.Way = 7 then h.Color else if s.Way = 6 then h.Color && h.Dots else if s.Way = 2 then h.Dots else if s.Way = 4 then h.Alter else true
def slQ (b : Bt) (h : Hb) (s : Sp) : Bool := decide (s.Rest = b.Rest) && usQ s h
def fkS (b : Bt) (h : Hb) (s : Sp) : List Fo := if slQ b h s then (if s.Dot then [] else [⟨s.Value, s.Color, false⟩]) ++ (if h.Dots then [⟨s.Value, s.Color, true⟩] else []) else []
def fkL (b : Bt) (h : Hb) (L : List Sp) : List Fo := L.flatMap (fkS b h)
def foS (r : Bool) (f : Fo) : List Sg :=
 let s : Sg := if r then ⟨2, f.v, 0, 0, false, 0, false, false, ⟨0, 0, 0, 0⟩, false, 0, 0, 0, 0⟩ else ⟨1, f.v, 4, 0, f.c, 0, false, false, ⟨0, 0, 0, 0⟩, false, 0, 0, 0, 0⟩
 if f.d then [s, ⟨3, 0, 0, 0, false, 0, false, false, ⟨0, 0, 0, 0⟩, false, 0, 0, 0, 0⟩] else [s]
def rkC (b : Bt) (h : Hb) (L : List Sp) (v : Int) (c : Bool) : List Fo :=
 (if L.any (fun s => slQ b h s && decide (s.Value = v) && decide (s.Color = c) && !s.Dot) then [⟨v, c, false⟩] else []) ++
 (if L.any (fun s => slQ b h s && decide (s.Value = v) && decide (s.Color = c)) && h.Dots then [⟨v, c, true⟩] else [])
def rkV (b : Bt) (h : Hb) (L : List Sp) (v : Int) : List Fo := rkC b h L v false ++ rkC b h L v true
def rkL (b : Bt) (h : Hb) (L : List Sp) : Nat -> List Fo
 | 0 => []
 | n + 1 => rkL b h L n ++ rkV b h L (1 + (n : Int))
theorem znv {b : Bt} {h : Hb} {L : List Sp} {v : Int} {c : Bool} {f : Fo} : f ∈ rkC b h L v c ↔ f.v = v /\ f.c = c /\ f ∈ fkL b h L := by
 unfold rkC fkL
 grind [fkS]
def znw {b : Bt} {h : Hb} {L : List Sp} {v : Int} {f : Fo} : f ∈ rkV b h L v ↔ f.v = v /\ f ∈ fkL b h L := by
 grind [rkV, znv]
def zkI {b : Bt} {h : Hb} {L : List Sp} {f : Fo} : ∀ n, f ∈ rkL b h L n ↔ (1 <= f.v /\ f.v <= (n : Int)) /\ f ∈ fkL b h L
 | 0 => by
  grind [rkL]
 | n + 1 => by
  unfold rkL;rw [wG, zkI n, znw]
  grind
def foL (f g : Fo) : Prop := foN f < foN g
theorem zvB (b : Bt) (h : Hb) (L : List Sp) (v : Int) (c : Bool) : (rkC b h L v c).Pairwise foL := by
 unfold rkC;rw [vK];refine ⟨by split <;> simp, by split <;> simp, fun x hx y Z => ?_⟩
 grind [foL, foN, b2i]
def zvC (b : Bt) (h : Hb) (L : List Sp) (v : Int) : (rkV b h L v).Pairwise foL := by
 grind [rkV, zvB, znv, foL, foN, b2i]
theorem zp8 (b : Bt) (h : Hb) (L : List Sp) : ∀ n, (rkL b h L n).Pairwise foL
 | 0 => by simp [rkL]
 | n + 1 => by
  unfold rkL;rw [vK];refine ⟨zp8 b h L n, zvC b h L _, fun x hx y Z => ?_⟩;have hx := ((zkI n).1 hx).1;have Z := (znw.1 Z).1;have V := zba x.c;have U := zba y.c;have T := zba x.d;have Q := zba y.d;unfold foL foN; omega
def frL (m : Mn) (b : Bt) (h : Hb) : List Fo := rkL b h (allE m b.Dur) 8
def frV (m : Mn) (b : Bt) (h : Hb) : List (List Sg) := (frL m b h).map (foS b.Rest)
def zp9 {m : Mn} {t : Tm} {v : Int} : ∀ n, ∀ s ∈ alI m t v n, ∃ w : Nat, 1 <= w /\ w < n /\ s = spOf v (w : Int)
 | 0, s, h => by simp [alI] at h
 | n + 1, s, h => by
  unfold alI at h;split at h
  ·rename_i T;rcases wG.1 h with h | h
   ·obtain ⟨w, Z, U, V⟩ := zp9 n s h; exact ⟨w, Z, by omega, V⟩
   grind
  ·obtain ⟨w, Z, U, V⟩ := zp9 n s h; grind
theorem zuj {m : Mn} {t : Tm} : ∀ n, ∀ s ∈ alO m t n, ∃ v w : Nat, 1 <= v /\ v <= n /\ 1 <= w /\ w < 9 /\ s = spOf (v : Int) (w : Int)
 | 0, s, h => by simp [alO] at h
 | n + 1, s, h => by
  unfold alO at h;rcases wG.1 h with h | h
  ·obtain ⟨v, w, Z, V, U⟩ := zuj n s h; grind
  ·obtain ⟨w, Z, V, U⟩ := zp9 9 s h;exact ⟨1 + n, w, by omega, by omega, Z, V, by rw [U]; congr 1⟩
def zqa {m : Mn} {t : Tm} {s : Sp} (h : s ∈ allE m t) : ∃ v w : Nat, 1 <= v /\ v <= 8 /\ 1 <= w /\ w < 9 /\ s = spOf (v : Int) (w : Int) := by
 grind [allE, zuj]
theorem zxW {m : Mn} {b : Bt} {h : Hb} {f : Fo} : f ∈ frL m b h ↔ f ∈ fkL b h (allE m b.Dur) := by
 unfold frL;rw [zkI];refine ⟨fun h => h.2, fun hf => ⟨?_, hf⟩⟩;unfold fkL at hf;obtain ⟨s, hs, hf⟩ := List.mem_flatMap.1 hf;obtain ⟨v, w, Z, V, -, -, rfl⟩ := zqa hs;unfold fkS at hf
 have : f.v = (v : Int) := by
  split at hf
  ·rcases wG.1 hf with hf | hf
   ·split at hf
    ·simp at hf
    ·rw [vT] at hf; rw [hf]; rfl
   ·split at hf
    ·rw [vT] at hf; rw [hf]; rfl
    ·simp at hf
  ·simp at hf
 all_goals omega
def zoI {l : List Fo} {m : Mn} {b : Bt} {h : Hb} (Z : l.Pairwise foL) (hm : ∀ f, f ∈ l ↔ f ∈ fkL b h (allE m b.Dur)) : l = frL m b h := by
 grind [foL, List.Pairwise.imp, frL, zp8, List.Perm.eq_of_pairwise, List.perm_ext_iff_of_nodup, zxW]
def znx (m : Mn) (b : Bt) (h : Hb) : (frL m b h).length <= 32 := by
 have key : ∀ n, (rkL b h (allE m b.Dur) n).length <= 4 * n := by
  intro n
  induction n with
  | zero => simp [rkL]
  | succ n ih =>
   have Z : ∀ c, (rkC b h (allE m b.Dur) (1 + (n : Int)) c).length <= 2 := fun c => by
    unfold rkC; rw [jJ];split <;> split <;> simp
   grind [rkL, rkV]
 exact key 8
def zgn (m : Mn) (b : Bt) (h : Hb) : (frV m b h).length <= 32 := by
 simp [frV, znx]
def urQ (b : Bt) (h : Hb) (s : Sp) : Bool := decide (s.Rest = b.Rest) && (!s.Color || h.Color) && (!s.Dot || h.Dots) && (!decide (s.Way = 4) || h.Alter)
theorem zuk {m : Mn} {t : Tm} {s : Sp} (hs : s ∈ allE m t) (b : Bt) (h : Hb) : urQ b h s = slQ b h s := by
 obtain ⟨v, w, -, -, V, U, rfl⟩ := zqa hs;have Z : w = 1 \/ w = 2 \/ w = 3 \/ w = 4 \/ w = 5 \/ w = 6 \/ w = 7 \/ w = 8 := by omega
 obtain ⟨c, d, a⟩ := h;unfold urQ slQ usQ;rcases Z with rfl | rfl | rfl | rfl | rfl | rfl | rfl | rfl <;> (rw [x5, x5]; refine j5 (fun z => _ && z) ?_) <;> cases c <;> cases d <;> cases a <;> rfl
end
end Go.Rse
