/-
  Walks.
-/
import Derived.Test.YtbopkhoalndflaaGreatDoorVJLvl5
set_option linter.all false
namespace Go.Rse
open Go Go.Proofs Go.Proofs.Tryz
attribute [local irreducible] Pur yu yq Ex X Fn Imp LeV LeB FnO It yD FnW FnOW
def brE : Int × Int × Int -> List AV := fun p => [iv p.1, iv p.2.1, iv p.2.2]
def bdT (b : Bd) : Int × Int × Int := (bdF b, b.next, b.item)
def bdL (k : Int) (l : List Ite) (n : Nat) : List (Int × Int × Int) := (bdK k l n).map bdT
def zyH (k : Int) (l : List Ite) : [((0 : Int), (0 : Int), (-1 : Int))] = bdL k l 0 := by rfl
theorem zok {k : Int} {l : List Ite} {n : Nat} {x : Ite} (h : l[n]? = some x) (Z : 0 <= x.Cut) : bdL k l (n + 1) = (bdL k l n ++ if x.Color = false /\ x.Value <= k then [((n : Int), (n : Int) + 1, (n : Int))] else []) ++ if ¬ x.Cut = 0 /\ x.Cut <= k then [((n : Int) + 1, (n : Int) + 1, (-1 : Int))] else [] := by
 grind [bdL, zdx, bdT]
def zwn {k : Int} {l : List Ite} {n : Nat} {x : Ite} (h : l[n]? = some x) (Z : 0 <= x.Cut) (V : x.Color = false /\ x.Value <= k) (U : ¬ x.Cut = 0 /\ x.Cut <= k) : (bdL k l n ++ [((n : Int), (n : Int) + 1, (n : Int))]) ++ [((n : Int) + 1, (n : Int) + 1, (-1 : Int))] = bdL k l (n + 1) := by simp_all [zok]
def zwo {k : Int} {l : List Ite} {n : Nat} {x : Ite} (h : l[n]? = some x) (Z : 0 <= x.Cut) (V : x.Color = false /\ x.Value <= k) (U : x.Cut = 0 \/ k < x.Cut) : bdL k l n ++ [((n : Int), (n : Int) + 1, (n : Int))] = bdL k l (n + 1) := by grind [zok]
def zwp {k : Int} {l : List Ite} {n : Nat} {x : Ite} (h : l[n]? = some x) (Z : 0 <= x.Cut) (V : x.Color = true \/ k < x.Value) (U : ¬ x.Cut = 0 /\ x.Cut <= k) : bdL k l n ++ [((n : Int) + 1, (n : Int) + 1, (-1 : Int))] = bdL k l (n + 1) := by
 grind [zok]
def zwq {k : Int} {l : List Ite} {n : Nat} {x : Ite} (h : l[n]? = some x) (Z : 0 <= x.Cut) (V : x.Color = true \/ k < x.Value) (U : x.Cut = 0 \/ k < x.Cut) : bdL k l n = bdL k l (n + 1) := by
 grind [zok]
def zol (k : Int) (l : List Ite) (n : Nat) : (bdL k l n).length <= 2 * n + 1 := by simp [bdL, zeZ]
def bdsT (k : Int) (l : List Ite) : List (Int × Int × Int) := (bds k l).map bdT
def zq3 (k : Int) (l : List Ite) : bdL k l l.length ++ [((l.length : Int), (l.length : Int), (-1 : Int))] = bdsT k l := by
 unfold bdsT bds bdL; rw [xE]; rfl
def zq4 (k : Int) (l : List Ite) : (bdsT k l).length = (bds k l).length := by unfold bdsT; simp
def zgO {a b : Tm} (h : tmE a = tmE b) : a = b := by
 obtain ⟨a1, a2⟩ := a; simp_all [tmE]
def zA2 {L : List Tm} {s : Tm} {n : Nat} {t : Tm} (h : L[n]? = some t) : sumF s (L.drop n) = if addE s t = 0 then sumF (addV s t) (L.drop (n + 1)) else (tmZ, addE s t) := by
 grind [List.drop_eq_getElem_cons, sumF]
def zom {l : List Ite} {s : Sgm} {n : Nat} {x : Ite} (h : (itR l s)[n]? = some x) : (drL (itR l s))[n]? = some x.Dur /\ (0 <= s.From -> l[(s.From + n).toNat]? = some x) := by
 grind [drL, itR]
def zje {l : List Ite} {s : Sgm} (f0 : 0 <= s.From) (ft : s.From <= s.To) (tn : s.To <= l.length) : ((itR l s).length : Int) = s.To - s.From := by
 grind [itR]
theorem zq5 : ∀ (L : List Tm) (t : Tm) (n : Nat), n < L.length -> (pfF t L)[n]? = some (sumA t (L.take n))
 | [], t, n, h => by simp at h
 | d :: r, t, 0, h => rfl
 | d :: r, t, n + 1, h => by
  have := zq5 r (addV t d) n (by simpa using h);simpa [pfF, sumA] using this
theorem zq6 : ∀ (L : List Tm) (t : Tm), (pfF t L).length = L.length
 | [], t => rfl
 | d :: r, t => by simp only [pfF, wB, zq6 r]
theorem zuA {l : List Ite} {n : Nat} (h : n < l.length) : (fsL l)[n]? = some (fsA l (n + 1)) := by
 have Z : ∀ (L : List Tm) (t : Tm) (n : Nat), n < L.length -> (smF t L)[n]? = some (sumA t (L.take (n + 1))) := by
  intro L
  induction L with
  | nil => intro t n h; simp at h
  | cons d r ih =>
   intro t n h;cases n with
   | zero => rfl
   | succ n => simpa [smF, sumA] using ih (addV t d) n (by simpa using h)
 simp_all [fsL, fsA, drL]
def zyI {l : List Ite} {w : Tm} (h : ∀ j, j < l.length -> ¬ fsA l (j + 1) = w) : decide (w ∈ fsL l) = false := by
 grind [List.getElem?_of_mem, zhN, zuA]
def zwr {l : List Ite} {w : Tm} {n : Nat} (Z : n < l.length) (h : fsA l (n + 1) = w) : decide (w ∈ fsL l) = true := by
 rw [w7]; exact j6 (h ▸ zuA Z)
def zq7 (l : List Ite) : fsA l l.length = sumA ⟨0, 1⟩ (drL l) := by simp [fsA, jY, drL]
theorem zon {l : List Ite} {w : Tm} : w ∈ rlaL l ↔ ∃ j, j < l.length /\ subE (fsA l l.length) (fsA l j) = 0 /\ subV (fsA l l.length) (fsA l j) = w := by
 unfold rlaL;rw [← zq7];simp only [jV, wR, wA];constructor
 ·grind [List.getElem?_of_mem, zq6, zq5, drL, fsA]
 ·rintro ⟨j, T, Z, V⟩
  have U : j < (drL l).length := by grind [drL]
  exact ⟨fsA l j, ⟨j6 (zq5 _ _ _ U), Z⟩, V⟩
def zws {l : List Ite} {w : Tm} (h : ∀ j, j < l.length -> ¬ (subE (fsA l l.length) (fsA l j) = 0 /\ subV (fsA l l.length) (fsA l j) = w)) : decide (w ∈ rlaL l) = false := by
 simp_all [zon]
def zsL {l : List Ite} {w : Tm} {n : Nat} (Z : n < l.length) (V : subE (fsA l l.length) (fsA l n) = 0) (U : subV (fsA l l.length) (fsA l n) = w) : decide (w ∈ rlaL l) = true := by
 grind [zon]
attribute [local irreducible] bdL bdsT fsA fsL drL addV addE subV subE divV divE sumF itR
def zeO (k : Int) (l : List Ite) (hl : l.length <= 1000000) (I : ∀ x ∈ l, 0 <= x.Cut) : Fn prog 321 [iv k, itsA l] (.sl brE (bdsT k l)) := by
 have H := zyH k l;have T := zq3 k l;refine xV func321 ntmps321 (fun g w d => ?_);refine gq ?_;refine yz brE [((0 : Int), (0 : Int), (-1 : Int))] ?_;refine yh ?_;apply yg;apply ye;refine yh ?_;apply xS;refine zq (fun n => [(0, iv k), (1, itsA l), (5, .own 8), (6, iv (n : Int))]) (fun n => [(8, .row brE (bdL k l n) 357 3)]) l.length (fun n hk => ?_);refine gd ?_ ?_<;>intro G
 ·obtain ⟨x, hx⟩ : ∃ x, l[n]? = some x := ⟨_, lgg (by omega)⟩;have E : l[(n : Int).toNat]? = some x := by simpa using hx
  have Z := I x (j6 hx);have J := zol k l n;apply yl;apply yg;apply xS;apply yg;apply ye;iterate 6 refine ya ?_
  refine xX 6 ?_;refine ym ?_;iterate 7 refine xW ?_
  refine gf ?_ ?_<;>intro V
  ·refine gq ?_;refine yz brE [((n : Int), (n : Int) + 1, (n : Int))] ?_;refine xY ?_;refine ya ?_;apply yE;(iterate 6 refine ya ?_);refine xX 6 ?_;refine ym ?_;(iterate 7 refine xW ?_);refine gf ?_ ?_<;>intro Q
   ·have U := zwn hx Z V Q;refine gq ?_;refine yz brE [((n : Int) + 1, (n : Int) + 1, (-1 : Int))] ?_;refine gq ?_;refine yw (n + 1) (hI := yk)
   ·have U := zwo hx Z V Q;refine gq ?_;refine yw (n + 1) (hI := yk)
  ·apply yl;apply ye;(iterate 6 refine ya ?_);refine xX 6 ?_;refine ym ?_;(iterate 7 refine xW ?_);refine gf ?_ ?_<;>intro N
   ·have U := zwp hx Z V N;refine gq ?_;refine yz brE [((n : Int) + 1, (n : Int) + 1, (-1 : Int))] ?_;refine gq ?_;refine yw (n + 1) (hI := yk)
   ·have U := zwq hx Z V N;refine gq ?_;refine yw (n + 1) (hI := yk)
 ·have hn : n = l.length := by omega
  subst hn;have J := zol k l l.length;refine gq ?_;refine yz brE [((l.length : Int), (l.length : Int), (-1 : Int))] ?_;refine xY ?_;refine yh ?_;refine xU ?_;refine xQ (xP (k := 8) rfl) ?_;refine gq ?_;all_goals (first | exact j5 (fun z => AV.sl brE z) T | exact zE T)
set_option maxHeartbeats 1000000 in
def zck (l : List Ite) (s : Sgm) (q : Tm) (hs : SgB l.length s) (hl : l.length <= 1000000) : Fn prog 366 [itsA l, smA s, tmA q] (.bool (decide (q ∈ fsL (itR l s)))) := by
 have f0 := hs.f0;have ft := hs.ft;have tn := hs.tn;have lf := hs.lf;have rt := hs.rt;have I := zje f0 ft tn;have H := znd (itR l s);refine xV func366 ntmps366 (fun g w d => ?_);refine gq ?_
 refine zdW (ι := Nat) (fun (n : Nat) => [(0, itsA l), (4, .ptr 4 0 0 0), (5, .ptr 5 0 0 0), (7, .ptr 7 0 0 0), (8, iv (s.From + (n : Int)))]) (fun (n : Nat) => [(4, .box (smE s) 317), (5, .box (tmE q) 83), (7, .box (tmE (fsA (itR l s) n)) 83)]) (fun (n : Nat) => n <= (itR l s).length /\ ∀ j, j < n -> ¬ fsA (itR l s) (j + 1) = q) (fun (n : Nat) => (itR l s).length - n) 0 (fun n G => ?_) (hJ := by
  simp_all) (h0 := by exact yk)
 obtain ⟨E, V⟩ := G;refine gd ?_ ?_<;>intro xT
 ·obtain ⟨x, hx⟩ : ∃ x, (itR l s)[n]? = some x := ⟨_, lgg (by omega)⟩;have U := zom hx;have T : l[(s.From + (n : Int)).toNat]? = some x := U.2 f0;have Q := zpH hx;obtain ⟨Z, x4, x3⟩ := Q;have N : fsA (itR l s) (n + 1) = addV (fsA (itR l s) n) x.Dur := (zgO Z).symm;have x2 : setAt (tmE (fsA (itR l s) n)) (0 * 0 + 0) (tmE (addV (fsA (itR l s) n) x.Dur)) = tmE (fsA (itR l s) (n + 1)) := Z;refine gq ?_;refine kP [⟨0, 19, tmA (fsA (itR l s) n), []⟩, ⟨1, 20, itsA l, []⟩, ⟨2, 21, iv (s.From + (n : Int)), []⟩, ⟨3, 22, .ept itE x 0, [2, 1]⟩, ⟨4, 23, .ept itE x (0 + 6), [2, 1, 3]⟩, ⟨5, 24, tmA x.Dur, [2, 1, 3, 4]⟩, ⟨6, 25, .tup [tmA (addV (fsA (itR l s) n) x.Dur), iv (addE (fsA (itR l s) n) x.Dur)], [2, 1, 3, 4, 5, 0]⟩, ⟨7, 18, .tup [tmA (addV (fsA (itR l s) n) x.Dur), iv (addE (fsA (itR l s) n) x.Dur)], [2, 1, 3, 4, 5, 0, 6]⟩, ⟨8, 26, tmA (addV (fsA (itR l s) n) x.Dur), [2, 1, 3, 4, 5, 0, 6, 7]⟩, ⟨9, 27, iv (addE (fsA (itR l s) n) x.Dur), [2, 1, 3, 4, 5, 0, 6, 7]⟩] [(10, [7, 5, 4, 3, 2, 1, 0, 6, 8])] (fun j => match j with | 0 => ⟨[(0, itsA l), (4, .ptr 4 0 0 0), (5, .ptr 5 0 0 0), (7, .ptr 7 0 0 0), (8, iv (s.From + (n : Int)))], [(4, .box (smE s) 317), (5, .box (tmE q) 83), (7, .box (tmE (fsA (itR l s) n)) 83)]⟩ | _ => ⟨[(0, itsA l), (4, .ptr 4 0 0 0), (5, .ptr 5 0 0 0), (7, .ptr 7 0 0 0), (8, iv (s.From + (n : Int)))], [(4, .box (smE s) 317), (5, .box (tmE q) 83), (7, .box (tmE (addV (fsA (itR l s) n) x.Dur)) 83)]⟩) mo (by kernel_rfl) (zl (yd)) (fun j hj => ?_) (fun j c hc β hβ => ?_) ?_
  ·rcases j with _ | _ | j
   ·(iterate 3 refine ⟨.inr ⟨_, rfl, rfl, rfl, rfl, xO yG⟩, ?_⟩);refine ⟨.inr ⟨_, rfl, rfl, rfl, rfl, xO (zaf (enc := itE) (l := l) (u := x) rfl rfl SlK.h TyK.h (fun _ => rfl) (by omega) T)⟩, ?_⟩;(iterate 2 refine ⟨.inr ⟨_, rfl, rfl, rfl, rfl, xO yG⟩, ?_⟩);refine ⟨.inr ⟨_, rfl, rfl, rfl, rfl, zao rfl rfl rfl (kE _) (zg (fsA (itR l s) n) x.Dur)⟩, ?_⟩;exact yC
   ·exact yC
   simp_all
  ·rcases j with _ | j
   ·obtain rfl : (10, [7, 5, 4, 3, 2, 1, 0, 6, 8]) = c := by injection hc
    refine yQ rfl (yV (st0 := ⟨[(19, tmA (fsA (itR l s) n)), (20, itsA l), (21, iv (s.From + (n : Int))), (22, .ept itE x 0), (23, .ept itE x (0 + 6)), (24, tmA x.Dur), (25, .tup [tmA (addV (fsA (itR l s) n) x.Dur), iv (addE (fsA (itR l s) n) x.Dur)]), (18, .tup [tmA (addV (fsA (itR l s) n) x.Dur), iv (addE (fsA (itR l s) n) x.Dur)]), (26, tmA (addV (fsA (itR l s) n) x.Dur)), (27, .ifb (β 9) (iv (addE (fsA (itR l s) n) x.Dur))), (0, itsA l), (4, .ptr 4 0 0 0), (5, .ptr 5 0 0 0), (7, .ptr 7 0 0 0), (8, iv (s.From + (n : Int)))], [(4, .box (smE s) 317), (5, .box (tmE q) 83), (7, .box (tmE (fsA (itR l s) n)) 83)]⟩) (yK) ?_);refine yq.imp (zdb rfl rfl rfl rfl ty83 rfl (leB rfl)) (yK)
   simp_all
  refine gd ?_ ?_<;>intro J
  ·have hE := zwr (l := itR l s) (w := q) (n := n) (by omega) (N.trans J);refine gq ?_;all_goals rw [hE]
  refine gq ?_
  refine yw (n + 1) (hJ := by
   grind) (hI := yk)
 ·have hE := zyI (l := itR l s) (w := q) fun j hj => V j (by omega)
  refine gq ?_;all_goals rw [hE]
set_option maxHeartbeats 1000000 in
def zc1 (l : List Ite) (s : Sgm) (q : Tm) (hs : SgB l.length s) (hl : l.length <= 1000000) : Fn prog 367 [itsA l, smA s, tmA q] (.bool (decide (q ∈ rlaL (itR l s)))) := by
 have f0 := hs.f0;have ft := hs.ft;have tn := hs.tn;have lf := hs.lf;have rt := hs.rt;have xT := zje f0 ft tn;have x4 := znd (itR l s);refine xV func367 ntmps367 (fun g w d => ?_);apply ye;iterate 2 refine zF ?_
 refine ya ?_;apply yE;refine ya ?_;refine zh ?_;refine xY ?_;apply k9;apply yg;apply ye;refine yy ?_;apply xS;refine zq (fun n => [(0, itsA l), (4, .ptr 4 0 0 0), (5, .ptr 5 0 0 0), (7, .ptr 7 0 0 0), (8, iv (s.From + (n : Int)))]) (fun n => [(4, .box (smE s) 317), (5, .box (tmE q) 83), (7, .box (tmE (fsA (itR l s) n)) 83)]) ((itR l s).length) (fun n hk => ?_);refine gd ?_ ?_<;>intro x3
 ·obtain ⟨x, hx⟩ : ∃ x, (itR l s)[n]? = some x := ⟨_, lgg (by omega)⟩;have V := zom hx;have U : l[(s.From + (n : Int)).toNat]? = some x := V.2 f0;have T := zpH hx;obtain ⟨Z, N, J⟩ := T;have I : fsA (itR l s) (n + 1) = addV (fsA (itR l s) n) x.Dur := (zgO Z).symm;have H : setAt (tmE (fsA (itR l s) n)) (0 * 0 + 0) (tmE (addV (fsA (itR l s) n) x.Dur)) = tmE (fsA (itR l s) (n + 1)) := Z;refine gq ?_;refine kP [⟨0, 23, tmA (fsA (itR l s) n), []⟩, ⟨1, 24, itsA l, []⟩, ⟨2, 25, iv (s.From + (n : Int)), []⟩, ⟨3, 26, .ept itE x 0, [2, 1]⟩, ⟨4, 27, .ept itE x (0 + 6), [2, 1, 3]⟩, ⟨5, 28, tmA x.Dur, [2, 1, 3, 4]⟩, ⟨6, 29, .tup [tmA (addV (fsA (itR l s) n) x.Dur), iv (addE (fsA (itR l s) n) x.Dur)], [2, 1, 3, 4, 5, 0]⟩, ⟨7, 22, .tup [tmA (addV (fsA (itR l s) n) x.Dur), iv (addE (fsA (itR l s) n) x.Dur)], [2, 1, 3, 4, 5, 0, 6]⟩, ⟨8, 30, tmA (addV (fsA (itR l s) n) x.Dur), [2, 1, 3, 4, 5, 0, 6, 7]⟩, ⟨9, 31, iv (addE (fsA (itR l s) n) x.Dur), [2, 1, 3, 4, 5, 0, 6, 7]⟩] [(10, [7, 5, 4, 3, 2, 1, 0, 6, 8])] (fun j => match j with | 0 => ⟨[(0, itsA l), (4, .ptr 4 0 0 0), (5, .ptr 5 0 0 0), (7, .ptr 7 0 0 0), (8, iv (s.From + (n : Int)))], [(4, .box (smE s) 317), (5, .box (tmE q) 83), (7, .box (tmE (fsA (itR l s) n)) 83)]⟩ | _ => ⟨[(0, itsA l), (4, .ptr 4 0 0 0), (5, .ptr 5 0 0 0), (7, .ptr 7 0 0 0), (8, iv (s.From + (n : Int)))], [(4, .box (smE s) 317), (5, .box (tmE q) 83), (7, .box (tmE (addV (fsA (itR l s) n) x.Dur)) 83)]⟩) mo (by kernel_rfl) (zl (yd)) (fun j hj => ?_) (fun j c G β hβ => ?_) ?_
  ·rcases j with _ | _ | j
   ·(iterate 3 refine ⟨.inr ⟨_, rfl, rfl, rfl, rfl, xO yG⟩, ?_⟩);refine ⟨.inr ⟨_, rfl, rfl, rfl, rfl, xO (zaf (enc := itE) (l := l) (u := x) rfl rfl SlK.h TyK.h (fun _ => rfl) (by omega) U)⟩, ?_⟩;(iterate 2 refine ⟨.inr ⟨_, rfl, rfl, rfl, rfl, xO yG⟩, ?_⟩);refine ⟨.inr ⟨_, rfl, rfl, rfl, rfl, zao rfl rfl rfl (kE _) (zg (fsA (itR l s) n) x.Dur)⟩, ?_⟩;exact yC
   ·exact yC
   simp_all
  ·rcases j with _ | j
   ·obtain rfl : (10, [7, 5, 4, 3, 2, 1, 0, 6, 8]) = c := by injection G
    refine yQ rfl (yV (st0 := ⟨[(23, tmA (fsA (itR l s) n)), (24, itsA l), (25, iv (s.From + (n : Int))), (26, .ept itE x 0), (27, .ept itE x (0 + 6)), (28, tmA x.Dur), (29, .tup [tmA (addV (fsA (itR l s) n) x.Dur), iv (addE (fsA (itR l s) n) x.Dur)]), (22, .tup [tmA (addV (fsA (itR l s) n) x.Dur), iv (addE (fsA (itR l s) n) x.Dur)]), (30, tmA (addV (fsA (itR l s) n) x.Dur)), (31, .ifb (β 9) (iv (addE (fsA (itR l s) n) x.Dur))), (0, itsA l), (4, .ptr 4 0 0 0), (5, .ptr 5 0 0 0), (7, .ptr 7 0 0 0), (8, iv (s.From + (n : Int)))], [(4, .box (smE s) 317), (5, .box (tmE q) 83), (7, .box (tmE (fsA (itR l s) n)) 83)]⟩) (yK) ?_);refine yq.imp (zdb rfl rfl rfl rfl ty83 rfl (leB rfl)) (yK)
   simp_all
  refine gq ?_;refine yw (n + 1) (hI := yk)
 ·have hn : n = (itR l s).length := by omega
  subst hn;refine gq ?_
  refine zdW (ι := Nat) (fun (n : Nat) => [(0, itsA l), (4, .ptr 4 0 0 0), (5, .ptr 5 0 0 0), (7, .ptr 7 0 0 0), (9, .ptr 9 0 0 0), (10, iv (s.From + (n : Int)))]) (fun (n : Nat) => [(4, .box (smE s) 317), (5, .box (tmE q) 83), (7, .box (tmE (fsA (itR l s) (itR l s).length)) 83), (9, .box (tmE (fsA (itR l s) n)) 83)]) (fun (n : Nat) => n <= (itR l s).length /\ ∀ j, j < n -> ¬ (subE (fsA (itR l s) (itR l s).length) (fsA (itR l s) j) = 0 /\ subV (fsA (itR l s) (itR l s).length) (fsA (itR l s) j) = q)) (fun (n : Nat) => (itR l s).length - n) 0 (fun n hk => ?_) (hJ := by
   simp_all) (h0 := by exact yk)
  obtain ⟨x2, E⟩ := hk;refine gd ?_ ?_<;>intro x1
  ·obtain ⟨x, hx⟩ : ∃ x, (itR l s)[n]? = some x := ⟨_, lgg (by omega)⟩;have V := zom hx;have U : l[(s.From + (n : Int)).toNat]? = some x := V.2 f0;have T := zpH hx;obtain ⟨Z, N, J⟩ := T;have I : fsA (itR l s) (n + 1) = addV (fsA (itR l s) n) x.Dur := (zgO Z).symm;have H : setAt (tmE (fsA (itR l s) n)) (0 * 0 + 0) (tmE (addV (fsA (itR l s) n) x.Dur)) = tmE (fsA (itR l s) (n + 1)) := Z;refine gq ?_;refine yM (z6 (fsA (itR l s) (itR l s).length) (fsA (itR l s) n)) ?_;(iterate 3 refine ya ?_);refine zh ?_;refine xY ?_;refine yh ?_;apply yg;apply ye;(iterate 2 refine ya ?_);refine xX 2 ?_;refine ym ?_;(iterate 3 refine xW ?_);refine gf ?_ ?_<;>intro Q
   ·have hE := zsL (l := itR l s) (w := q) (n := n) (by omega) Q.1 Q.2;refine gq ?_;all_goals rw [hE]
   apply yl;refine kP [⟨0, 55, tmA (fsA (itR l s) n), []⟩, ⟨1, 56, itsA l, []⟩, ⟨2, 57, iv (s.From + (n : Int)), []⟩, ⟨3, 58, .ept itE x 0, [2, 1]⟩, ⟨4, 59, .ept itE x (0 + 6), [2, 1, 3]⟩, ⟨5, 60, tmA x.Dur, [2, 1, 3, 4]⟩, ⟨6, 61, .tup [tmA (addV (fsA (itR l s) n) x.Dur), iv (addE (fsA (itR l s) n) x.Dur)], [2, 1, 3, 4, 5, 0]⟩, ⟨7, 54, .tup [tmA (addV (fsA (itR l s) n) x.Dur), iv (addE (fsA (itR l s) n) x.Dur)], [2, 1, 3, 4, 5, 0, 6]⟩, ⟨8, 62, tmA (addV (fsA (itR l s) n) x.Dur), [2, 1, 3, 4, 5, 0, 6, 7]⟩, ⟨9, 63, iv (addE (fsA (itR l s) n) x.Dur), [2, 1, 3, 4, 5, 0, 6, 7]⟩] [(10, [7, 5, 4, 3, 2, 1, 0, 6, 8])] (fun j => match j with | 0 => ⟨[(0, itsA l), (4, .ptr 4 0 0 0), (5, .ptr 5 0 0 0), (7, .ptr 7 0 0 0), (9, .ptr 9 0 0 0), (10, iv (s.From + (n : Int)))], [(4, .box (smE s) 317), (5, .box (tmE q) 83), (7, .box (tmE (fsA (itR l s) (itR l s).length)) 83), (9, .box (tmE (fsA (itR l s) n)) 83)]⟩ | _ => ⟨[(0, itsA l), (4, .ptr 4 0 0 0), (5, .ptr 5 0 0 0), (7, .ptr 7 0 0 0), (9, .ptr 9 0 0 0), (10, iv (s.From + (n : Int)))], [(4, .box (smE s) 317), (5, .box (tmE q) 83), (7, .box (tmE (fsA (itR l s) (itR l s).length)) 83), (9, .box (tmE (addV (fsA (itR l s) n) x.Dur)) 83)]⟩) mo (by kernel_rfl) (zl (yd)) (fun j hj => ?_) (fun j c G β hβ => ?_) ?_
   ·rcases j with _ | _ | j
    ·(iterate 3 refine ⟨.inr ⟨_, rfl, rfl, rfl, rfl, xO yG⟩, ?_⟩);refine ⟨.inr ⟨_, rfl, rfl, rfl, rfl, xO (zaf (enc := itE) (l := l) (u := x) rfl rfl SlK.h TyK.h (fun _ => rfl) (by omega) U)⟩, ?_⟩;(iterate 2 refine ⟨.inr ⟨_, rfl, rfl, rfl, rfl, xO yG⟩, ?_⟩);refine ⟨.inr ⟨_, rfl, rfl, rfl, rfl, zao rfl rfl rfl (kE _) (zg (fsA (itR l s) n) x.Dur)⟩, ?_⟩;exact yC
    ·exact yC
    simp_all
   ·rcases j with _ | j
    ·obtain rfl : (10, [7, 5, 4, 3, 2, 1, 0, 6, 8]) = c := by injection G
     refine yQ rfl (yV (st0 := ⟨[(55, tmA (fsA (itR l s) n)), (56, itsA l), (57, iv (s.From + (n : Int))), (58, .ept itE x 0), (59, .ept itE x (0 + 6)), (60, tmA x.Dur), (61, .tup [tmA (addV (fsA (itR l s) n) x.Dur), iv (addE (fsA (itR l s) n) x.Dur)]), (54, .tup [tmA (addV (fsA (itR l s) n) x.Dur), iv (addE (fsA (itR l s) n) x.Dur)]), (62, tmA (addV (fsA (itR l s) n) x.Dur)), (63, .ifb (β 9) (iv (addE (fsA (itR l s) n) x.Dur))), (0, itsA l), (4, .ptr 4 0 0 0), (5, .ptr 5 0 0 0), (7, .ptr 7 0 0 0), (9, .ptr 9 0 0 0), (10, iv (s.From + (n : Int)))], [(4, .box (smE s) 317), (5, .box (tmE q) 83), (7, .box (tmE (fsA (itR l s) (itR l s).length)) 83), (9, .box (tmE (fsA (itR l s) n)) 83)]⟩) (yK) ?_);refine yq.imp (zdb rfl rfl rfl rfl ty83 rfl (leB rfl)) (yK)
    simp_all
   refine gq ?_
   refine yw (n + 1) (hJ := by
    grind) (hI := yk)
  ·have hE := zws (l := itR l s) (w := q) fun j hj => E j (by omega)
   refine gq ?_;all_goals rw [hE]
end Go.Rse
