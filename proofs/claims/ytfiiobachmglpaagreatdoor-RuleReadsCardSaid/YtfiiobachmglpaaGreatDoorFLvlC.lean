/-
  Walks: segments by definition, their counts, sums of first and of last items.
  Walks: which choices are allowed at a level, by definition (the state is only read).
  Walks: counts and segments by definition.
-/
import Derived.Test.YtfiiobachmglpaaGreatDoorFLvlB
set_option linter.unusedSimpArgs false
set_option linter.unusedVariables false
namespace Go.Rse
open Go Go.Proofs
attribute [local irreducible] Pur yK yM Ex X Fn Imp LeV LeB FnO It yW FnW FnOW
def brE : Int × Int × Int -> List AV := fun p => [iv p.1, iv p.2.1, iv p.2.2]
def bdT (b : Bd) : Int × Int × Int := (bdF b, b.next, b.item)
def bdL (k : Int) (l : List Ite) (n : Nat) : List (Int × Int × Int) := (bdK k l n).map bdT
theorem zsH (k : Int) (l : List Ite) : [((0 : Int), (0 : Int), (-1 : Int))] = bdL k l 0 := by unfold bdL bdK; rfl
theorem zlO {k : Int} {l : List Ite} {n : Nat} {x : Ite} (h : l[n]? = some x) (hc : 0 <= x.Cut) : bdL k l (n + 1) = (bdL k l n ++ if x.Color = false /\ x.Value <= k then [((n : Int), (n : Int) + 1, (n : Int))] else []) ++ if ¬ x.Cut = 0 /\ x.Cut <= k then [((n : Int) + 1, (n : Int) + 1, (-1 : Int))] else [] := by
 unfold bdL;rw [zbB h, List.map_append, List.map_append]
 have e1 : (if isH k x then [(⟨n, n + 1, false⟩ : Bd)] else []).map bdT = if x.Color = false /\ x.Value <= k then [((n : Int), (n : Int) + 1, (n : Int))] else [] := by
  by_cases hh : isH k x
  ·rw [if_pos hh, if_pos hh]; simp [bdT, bdF]
  ·rw [if_neg hh, if_neg hh]; rfl
 have e2 : (if isC k x then [(⟨-1, n + 1, false⟩ : Bd)] else []).map bdT = if ¬ x.Cut = 0 /\ x.Cut <= k then [((n : Int) + 1, (n : Int) + 1, (-1 : Int))] else [] := by
  by_cases hh : isC k x
  ·rw [if_pos hh, if_pos ⟨by have := hh.1; omega, hh.2⟩]; simp [bdT, bdF]
  ·rw [if_neg hh, if_neg (fun h2 => hh ⟨by have := h2.1; omega, h2.2⟩)]; rfl
 rw [e1, e2]
theorem zqX {k : Int} {l : List Ite} {n : Nat} {x : Ite} (h : l[n]? = some x) (hc : 0 <= x.Cut) (h2 : x.Color = false /\ x.Value <= k) (h3 : ¬ x.Cut = 0 /\ x.Cut <= k) : (bdL k l n ++ [((n : Int), (n : Int) + 1, (n : Int))]) ++ [((n : Int) + 1, (n : Int) + 1, (-1 : Int))] = bdL k l (n + 1) := by rw [zlO h hc, if_pos h2, if_pos h3]
theorem zqY {k : Int} {l : List Ite} {n : Nat} {x : Ite} (h : l[n]? = some x) (hc : 0 <= x.Cut) (h2 : x.Color = false /\ x.Value <= k) (h3 : x.Cut = 0 \/ k < x.Cut) : bdL k l n ++ [((n : Int), (n : Int) + 1, (n : Int))] = bdL k l (n + 1) := by rw [zlO h hc, if_pos h2, if_neg (by omega), List.append_nil]
theorem zqZ {k : Int} {l : List Ite} {n : Nat} {x : Ite} (h : l[n]? = some x) (hc : 0 <= x.Cut) (h2 : x.Color = true \/ k < x.Value) (h3 : ¬ x.Cut = 0 /\ x.Cut <= k) : bdL k l n ++ [((n : Int) + 1, (n : Int) + 1, (-1 : Int))] = bdL k l (n + 1) := by
 rw [zlO h hc, if_neg (fun hh => by rcases h2 with h2 | h2; (rw [hh.1] at h2; cases h2); omega), if_pos h3, List.append_nil]
theorem zq0 {k : Int} {l : List Ite} {n : Nat} {x : Ite} (h : l[n]? = some x) (hc : 0 <= x.Cut) (h2 : x.Color = true \/ k < x.Value) (h3 : x.Cut = 0 \/ k < x.Cut) : bdL k l n = bdL k l (n + 1) := by
 rw [zlO h hc, if_neg (fun hh => by rcases h2 with h2 | h2; (rw [hh.1] at h2; cases h2); omega), if_neg (by omega), List.append_nil, List.append_nil]
theorem zlP (k : Int) (l : List Ite) (n : Nat) : (bdL k l n).length <= 2 * n + 1 := by unfold bdL; rw [List.length_map]; exact (zco k l n).2
def bdsT (k : Int) (l : List Ite) : List (Int × Int × Int) := (bds k l).map bdT
theorem znG (k : Int) (l : List Ite) : bdL k l l.length ++ [((l.length : Int), (l.length : Int), (-1 : Int))] = bdsT k l := by
 unfold bdsT bds bdL; rw [List.map_append]; rfl
theorem znH (k : Int) (l : List Ite) : (bdsT k l).length = (bds k l).length := by unfold bdsT; simp
theorem zfG {a b : Tm} (h : tmE a = tmE b) : a = b := by
 obtain ⟨a1, a2⟩ := a; obtain ⟨b1, b2⟩ := b;simp only [tmE, List.cons.injEq, AV.int.injEq, true_and, and_true] at h;rw [h.1, h.2]
theorem ztZ {L : List Tm} {s : Tm} {n : Nat} {t : Tm} (h : L[n]? = some t) : sumF s (L.drop n) = if addE s t = 0 then sumF (addV s t) (L.drop (n + 1)) else (tmZ, addE s t) := by
 have h1 := List.getElem?_eq_some_iff.1 h;rw [List.drop_eq_getElem_cons h1.1, h1.2]; rfl
theorem zlQ {l : List Ite} {s : Sgm} {n : Nat} {x : Ite} (h : (itR l s)[n]? = some x) : (drL (itR l s))[n]? = some x.Dur /\ (0 <= s.From -> l[(s.From + n).toNat]? = some x) := by
 refine ⟨by unfold drL; rw [List.getElem?_map, h]; rfl, fun h0 => ?_⟩;unfold itR at h;rw [List.getElem?_take] at h;split at h
 ·rw [List.getElem?_drop] at h;rw [show (s.From + n).toNat = s.From.toNat + n by omega]; exact h
 ·cases h
theorem zhx {l : List Ite} {s : Sgm} (f0 : 0 <= s.From) (ft : s.From <= s.To) (tn : s.To <= l.length) : ((itR l s).length : Int) = s.To - s.From := by
 unfold itR; rw [List.length_take, List.length_drop]; omega
theorem znI : ∀ (L : List Tm) (t : Tm) (n : Nat), n < L.length -> (pfF t L)[n]? = some (sumA t (L.take n))
 | [], t, n, h => by simp at h
 | d :: r, t, 0, h => rfl
 | d :: r, t, n + 1, h => by
  have := znI r (addV t d) n (by simpa using h);simpa [pfF, sumA] using this
theorem znJ : ∀ (L : List Tm) (t : Tm), (pfF t L).length = L.length
 | [], t => rfl
 | d :: r, t => by simp only [pfF, List.length_cons, znJ r]
theorem zp1 {l : List Ite} {n : Nat} (h : n < l.length) : (fsL l)[n]? = some (fsA l (n + 1)) := by
 have h1 : ∀ (L : List Tm) (t : Tm) (n : Nat), n < L.length -> (smF t L)[n]? = some (sumA t (L.take (n + 1))) := by
  intro L
  induction L with
  | nil => intro t n h; simp at h
  | cons d r ih =>
   intro t n h;cases n with
   | zero => rfl
   | succ n => simpa [smF, sumA] using ih (addV t d) n (by simpa using h)
 unfold fsL fsA;exact h1 _ _ _ (by unfold drL; simpa using h)
theorem zsI {l : List Ite} {w : Tm} (h : ∀ j, j < l.length -> ¬ fsA l (j + 1) = w) : decide (w ∈ fsL l) = false := by
 rw [decide_eq_false_iff_not];intro hm;obtain ⟨j, hj⟩ := List.getElem?_of_mem hm;have hlt := (List.getElem?_eq_some_iff.1 hj).1;rw [zgS] at hlt;rw [zp1 hlt] at hj;injection hj with hj;exact h j hlt hj
theorem zq1 {l : List Ite} {w : Tm} {n : Nat} (hn : n < l.length) (h : fsA l (n + 1) = w) : decide (w ∈ fsL l) = true := by
 rw [decide_eq_true_iff]; exact List.mem_of_getElem? (h ▸ zp1 hn)
theorem znK (l : List Ite) : fsA l l.length = sumA ⟨0, 1⟩ (drL l) := by unfold fsA; rw [List.take_of_length_le (by unfold drL; simp)]
theorem zlR {l : List Ite} {w : Tm} : w ∈ rlaL l ↔ ∃ j, j < l.length /\ subE (fsA l l.length) (fsA l j) = 0 /\ subV (fsA l l.length) (fsA l j) = w := by
 unfold rlaL;rw [← znK];simp only [List.mem_map, List.mem_filter, decide_eq_true_eq];constructor
 ·rintro ⟨t, ⟨h1, h2⟩, h3⟩
  obtain ⟨j, hj⟩ := List.getElem?_of_mem h1;have hlt := (List.getElem?_eq_some_iff.1 hj).1;rw [znJ] at hlt;rw [znI _ _ _ hlt] at hj;injection hj with hj;have hlt' : j < l.length := by unfold drL at hlt; simpa using hlt
  exact ⟨j, hlt', by unfold fsA at *; rw [hj]; exact h2, by unfold fsA at *; rw [hj]; exact h3⟩
 ·rintro ⟨j, h1, h2, h3⟩
  have hd : j < (drL l).length := by unfold drL; simpa using h1
  exact ⟨fsA l j, ⟨List.mem_of_getElem? (znI _ _ _ hd), h2⟩, h3⟩
theorem zq2 {l : List Ite} {w : Tm} (h : ∀ j, j < l.length -> ¬ (subE (fsA l l.length) (fsA l j) = 0 /\ subV (fsA l l.length) (fsA l j) = w)) : decide (w ∈ rlaL l) = false := by
 rw [decide_eq_false_iff_not, zlR]
 rintro ⟨j, h1, h2⟩
 exact h j h1 h2
theorem zoN {l : List Ite} {w : Tm} {n : Nat} (hn : n < l.length) (h1 : subE (fsA l l.length) (fsA l n) = 0) (h2 : subV (fsA l l.length) (fsA l n) = w) : decide (w ∈ rlaL l) = true := by
 rw [decide_eq_true_iff, zlR]; exact ⟨n, hn, h1, h2⟩
attribute [local irreducible] bdL bdsT fsA fsL drL addV addE subV subE divV divE sumF itR
theorem zd8 (k : Int) (l : List Ite) (hl : l.length <= 1000000) (hc : ∀ x ∈ l, 0 <= x.Cut) : Fn Tryz.prog 130 [iv k, itsA l] (.sl brE (bdsT k l)) := by
 have h00 := zsH k l;have hbe := znG k l;refine Fn.go Tryz.func130 Tryz.ntmps130 (fun g w d => ?_);apply yb;refine ya ?_;apply yn;refine ya ?_;refine yO brE [((0 : Int), (0 : Int), (-1 : Int))] ?_;refine ye ?_;apply yd;apply yb;refine ye ?_;apply X.block
 refine y9 (ι := Nat) (fun (n : Nat) => [(0, iv k), (1, itsA l), (5, .own 8), (6, iv (n : Int))]) (fun (n : Nat) => [(8, .row brE (bdL k l n) 184 3)]) (fun (n : Nat) => n <= l.length) (fun (n : Nat) => l.length - n) 0 (fun n hk => ?_) (h0 := by
  exact yx)
 apply yd;apply yb;refine yX ?_;refine yk rfl ?_ ?_<;>intro hc1
 ·obtain ⟨x, hx⟩ : ∃ x, l[n]? = some x := ⟨_, lgg (by omega)⟩;have hx2 : l[(n : Int).toNat]? = some x := by simpa using hx
  have hxc := hc x (List.mem_of_getElem? hx);have hbl := zlP k l n;apply yf;apply yd;apply X.block;apply yd;apply yb;iterate 6 refine ya ?_
  refine ExF.at 6 ?_;refine yC ?_;iterate 7 refine ExF.gi ?_
  refine yA ?_;refine ye ?_;refine yk rfl ?_ ?_<;>intro hc2
  ·apply yc;(iterate 6 refine ya ?_);refine yO brE [((n : Int), (n : Int) + 1, (n : Int))] ?_;refine yi ?_;refine ya ?_;apply yn;(iterate 6 refine ya ?_);refine ExF.at 6 ?_;refine yC ?_;(iterate 7 refine ExF.gi ?_);refine yA ?_;refine ye ?_;refine yk rfl ?_ ?_<;>intro hc3
   ·have hst := zqX hx hxc hc2 hc3;apply yc;(iterate 6 refine ya ?_);refine yO brE [((n : Int) + 1, (n : Int) + 1, (-1 : Int))] ?_;refine yi ?_;refine ye ?_;apply yc;refine yp ?_;refine yL (n + 1) (hI := yx)
   ·have hst := zqY hx hxc hc2 hc3;apply yf;apply yc;refine yp ?_;refine yL (n + 1) (hI := yx)
  ·apply yf;apply yb;(iterate 6 refine ya ?_);refine ExF.at 6 ?_;refine yC ?_;(iterate 7 refine ExF.gi ?_);refine yA ?_;refine ye ?_;refine yk rfl ?_ ?_<;>intro hc4
   ·have hst := zqZ hx hxc hc2 hc4;apply yc;(iterate 6 refine ya ?_);refine yO brE [((n : Int) + 1, (n : Int) + 1, (-1 : Int))] ?_;refine yi ?_;refine ye ?_;apply yc;refine yp ?_;refine yL (n + 1) (hI := yx)
   ·have hst := zq0 hx hxc hc2 hc4;apply yf;apply yc;refine yp ?_;refine yL (n + 1) (hI := yx)
 ·have hn : n = l.length := by omega
  subst hn;have hbl := zlP k l l.length;apply X.exit;apply yb;iterate 6 refine ya ?_
  refine yO brE [((l.length : Int), (l.length : Int), (-1 : Int))] ?_;refine yi ?_;refine ye ?_;refine X.ret ?_;refine yu (Imp.freeze (k := 8) rfl) ?_;refine ym ?_;all_goals (first | exact congrArg (fun z => AV.sl brE z) hbe | (rw [hbe]; done))
set_option maxHeartbeats 1000000 in
theorem zbN (l : List Ite) (s : Sgm) (q : Tm) (hs : SgB l.length s) (hl : l.length <= 1000000) : Fn Tryz.prog 257 [itsA l, smA s, tmA q] (.bool (decide (q ∈ fsL (itR l s)))) := by
 have f0 := hs.f0;have ft := hs.ft;have tn := hs.tn;have lf := hs.lf;have rt := hs.rt;have hrl := zhx f0 ft tn;have h01 := zlI (itR l s);refine Fn.go Tryz.func257 Tryz.ntmps257 (fun g w d => ?_);apply yb;iterate 2 refine yH ?_
 refine ya ?_;apply yn;refine ya ?_;refine yJ ?_;refine yi ?_;apply Ex.nil;apply yd;apply yb;refine yp ?_;apply X.block
 refine y9 (ι := Nat) (fun (n : Nat) => [(0, itsA l), (4, .ptr 4 0 0 0), (5, .ptr 5 0 0 0), (7, .ptr 7 0 0 0), (8, iv (s.From + (n : Int)))]) (fun (n : Nat) => [(4, .box (smE s) 104), (5, .box (tmE q) 60), (7, .box (tmE (fsA (itR l s) n)) 60)]) (fun (n : Nat) => n <= (itR l s).length /\ ∀ j, j < n -> ¬ fsA (itR l s) (j + 1) = q) (fun (n : Nat) => (itR l s).length - n) 0 (fun n hk => ?_) (hJ := by
  exact ⟨by omega, fun j h => absurd h (Nat.not_lt_zero j)⟩) (h0 := by
  exact yx)
 obtain ⟨hk1, hk2⟩ := hk;apply yd;apply yb;refine yX ?_;refine yk rfl ?_ ?_<;>intro hc1
 ·obtain ⟨x, hx⟩ : ∃ x, (itR l s)[n]? = some x := ⟨_, lgg (by omega)⟩;have hda := zlQ hx;have hx2 : l[(s.From + (n : Int)).toNat]? = some x := hda.2 f0;have hs3 := znB hx;obtain ⟨hs1, hs2, hs4⟩ := hs3;have hs5 : fsA (itR l s) (n + 1) = addV (fsA (itR l s) n) x.Dur := (zfG hs1).symm;have hs6 : setAt (tmE (fsA (itR l s) n)) (0 * 0 + 0) (tmE (addV (fsA (itR l s) n) x.Dur)) = tmE (fsA (itR l s) (n + 1)) := hs1;apply yf;apply yd;apply X.block;apply yd;refine X.drawQ [⟨0, 19, tmA (fsA (itR l s) n), []⟩, ⟨1, 20, itsA l, []⟩, ⟨2, 21, iv (s.From + (n : Int)), []⟩, ⟨3, 22, .ept itE x 0, [2, 1]⟩, ⟨4, 23, .ept itE x (0 + 6), [2, 1, 3]⟩, ⟨5, 24, tmA x.Dur, [2, 1, 3, 4]⟩, ⟨6, 25, .tup [tmA (addV (fsA (itR l s) n) x.Dur), iv (addE (fsA (itR l s) n) x.Dur)], [2, 1, 3, 4, 5, 0]⟩, ⟨7, 18, .tup [tmA (addV (fsA (itR l s) n) x.Dur), iv (addE (fsA (itR l s) n) x.Dur)], [2, 1, 3, 4, 5, 0, 6]⟩, ⟨8, 26, tmA (addV (fsA (itR l s) n) x.Dur), [2, 1, 3, 4, 5, 0, 6, 7]⟩, ⟨9, 27, iv (addE (fsA (itR l s) n) x.Dur), [2, 1, 3, 4, 5, 0, 6, 7]⟩] [(10, [7, 5, 4, 3, 2, 1, 0, 6, 8])] (fun j => match j with | 0 => ⟨[(0, itsA l), (4, .ptr 4 0 0 0), (5, .ptr 5 0 0 0), (7, .ptr 7 0 0 0), (8, iv (s.From + (n : Int)))], [(4, .box (smE s) 104), (5, .box (tmE q) 60), (7, .box (tmE (fsA (itR l s) n)) 60)]⟩ | _ => ⟨[(0, itsA l), (4, .ptr 4 0 0 0), (5, .ptr 5 0 0 0), (7, .ptr 7 0 0 0), (8, iv (s.From + (n : Int)))], [(4, .box (smE s) 104), (5, .box (tmE q) 60), (7, .box (tmE (addV (fsA (itR l s) n) x.Dur)) 60)]⟩) mo (by kernel_rfl) (zE (yl)) (fun j hj => ?_) (fun j c hc β hβ => ?_) ?_
  ·rcases j with _ | _ | j
   ·(iterate 3 refine ⟨.inr ⟨_, rfl, rfl, rfl, rfl, Pur.stepA yQ⟩, ?_⟩);refine ⟨.inr ⟨_, rfl, rfl, rfl, rfl, Pur.stepA (zU (enc := itE) (l := l) (u := x) rfl rfl SlK.h TyK.h (fun _ => rfl) (by omega) hx2)⟩, ?_⟩;(iterate 2 refine ⟨.inr ⟨_, rfl, rfl, rfl, rfl, Pur.stepA yQ⟩, ?_⟩);refine ⟨.inr ⟨_, rfl, rfl, rfl, rfl, zax rfl rfl rfl (LeL.refl _) (zk (fsA (itR l s) n) x.Dur)⟩, ?_⟩;exact yS
   ·exact yS
   ·exact absurd (show j + 2 <= 1 from hj) (by omega)
  ·rcases j with _ | j
   ·obtain rfl : (10, [7, 5, 4, 3, 2, 1, 0, 6, 8]) = c := by injection hc
    refine yw rfl (yG (st0 := ⟨[(19, tmA (fsA (itR l s) n)), (20, itsA l), (21, iv (s.From + (n : Int))), (22, .ept itE x 0), (23, .ept itE x (0 + 6)), (24, tmA x.Dur), (25, .tup [tmA (addV (fsA (itR l s) n) x.Dur), iv (addE (fsA (itR l s) n) x.Dur)]), (18, .tup [tmA (addV (fsA (itR l s) n) x.Dur), iv (addE (fsA (itR l s) n) x.Dur)]), (26, tmA (addV (fsA (itR l s) n) x.Dur)), (27, .ifb (β 9) (iv (addE (fsA (itR l s) n) x.Dur))), (0, itsA l), (4, .ptr 4 0 0 0), (5, .ptr 5 0 0 0), (7, .ptr 7 0 0 0), (8, iv (s.From + (n : Int)))], [(4, .box (smE s) 104), (5, .box (tmE q) 60), (7, .box (tmE (fsA (itR l s) n)) 60)]⟩) (yE) ?_);refine yq (zcp rfl rfl rfl rfl ty60 rfl (leB rfl)) (yE)
   ·exact absurd hc (by simp)
  apply yb;refine yp ?_;refine yk rfl ?_ ?_<;>intro hc2
  ·have hE := zq1 (l := itR l s) (w := q) (n := n) (by omega) (hs5.trans hc2);apply yb;refine ye ?_;refine X.ret ?_;refine ym ?_;all_goals (rw [hE])
  apply yf;apply yc;refine yp ?_
  refine yL (n + 1) (hJ := by
   refine ⟨by omega, fun j hj => ?_⟩;rcases Nat.lt_succ_iff_lt_or_eq.1 hj with h | h
   ·exact hk2 j h
   ·subst h; rw [hs5]; exact hc2) (hI := yx)
 ·have hE := zsI (l := itR l s) (w := q) fun j hj => hk2 j (by omega)
  apply X.exit;apply yb;refine ye ?_;refine X.ret ?_;refine ym ?_;all_goals (rw [hE])
set_option maxHeartbeats 1000000 in
theorem zcg (l : List Ite) (s : Sgm) (q : Tm) (hs : SgB l.length s) (hl : l.length <= 1000000) : Fn Tryz.prog 258 [itsA l, smA s, tmA q] (.bool (decide (q ∈ rlaL (itR l s)))) := by
 have f0 := hs.f0;have ft := hs.ft;have tn := hs.tn;have lf := hs.lf;have rt := hs.rt;have hrl := zhx f0 ft tn;have h01 := zlI (itR l s);refine Fn.go Tryz.func258 Tryz.ntmps258 (fun g w d => ?_);apply yb;iterate 2 refine yH ?_
 refine ya ?_;apply yn;refine ya ?_;refine yJ ?_;refine yi ?_;apply Ex.nil;apply yd;apply yb;refine yp ?_;apply X.block
 refine y9 (ι := Nat) (fun (n : Nat) => [(0, itsA l), (4, .ptr 4 0 0 0), (5, .ptr 5 0 0 0), (7, .ptr 7 0 0 0), (8, iv (s.From + (n : Int)))]) (fun (n : Nat) => [(4, .box (smE s) 104), (5, .box (tmE q) 60), (7, .box (tmE (fsA (itR l s) n)) 60)]) (fun (n : Nat) => n <= (itR l s).length) (fun (n : Nat) => (itR l s).length - n) 0 (fun n hk => ?_) (h0 := by
  exact yx)
 apply yd;apply yb;refine yX ?_;refine yk rfl ?_ ?_<;>intro hc1
 ·obtain ⟨x, hx⟩ : ∃ x, (itR l s)[n]? = some x := ⟨_, lgg (by omega)⟩;have hda := zlQ hx;have hx2 : l[(s.From + (n : Int)).toNat]? = some x := hda.2 f0;have hs3 := znB hx;obtain ⟨hs1, hs2, hs4⟩ := hs3;have hs5 : fsA (itR l s) (n + 1) = addV (fsA (itR l s) n) x.Dur := (zfG hs1).symm;have hs6 : setAt (tmE (fsA (itR l s) n)) (0 * 0 + 0) (tmE (addV (fsA (itR l s) n) x.Dur)) = tmE (fsA (itR l s) (n + 1)) := hs1;apply yf;apply yd;apply X.block;refine X.drawQ [⟨0, 23, tmA (fsA (itR l s) n), []⟩, ⟨1, 24, itsA l, []⟩, ⟨2, 25, iv (s.From + (n : Int)), []⟩, ⟨3, 26, .ept itE x 0, [2, 1]⟩, ⟨4, 27, .ept itE x (0 + 6), [2, 1, 3]⟩, ⟨5, 28, tmA x.Dur, [2, 1, 3, 4]⟩, ⟨6, 29, .tup [tmA (addV (fsA (itR l s) n) x.Dur), iv (addE (fsA (itR l s) n) x.Dur)], [2, 1, 3, 4, 5, 0]⟩, ⟨7, 22, .tup [tmA (addV (fsA (itR l s) n) x.Dur), iv (addE (fsA (itR l s) n) x.Dur)], [2, 1, 3, 4, 5, 0, 6]⟩, ⟨8, 30, tmA (addV (fsA (itR l s) n) x.Dur), [2, 1, 3, 4, 5, 0, 6, 7]⟩, ⟨9, 31, iv (addE (fsA (itR l s) n) x.Dur), [2, 1, 3, 4, 5, 0, 6, 7]⟩] [(10, [7, 5, 4, 3, 2, 1, 0, 6, 8])] (fun j => match j with | 0 => ⟨[(0, itsA l), (4, .ptr 4 0 0 0), (5, .ptr 5 0 0 0), (7, .ptr 7 0 0 0), (8, iv (s.From + (n : Int)))], [(4, .box (smE s) 104), (5, .box (tmE q) 60), (7, .box (tmE (fsA (itR l s) n)) 60)]⟩ | _ => ⟨[(0, itsA l), (4, .ptr 4 0 0 0), (5, .ptr 5 0 0 0), (7, .ptr 7 0 0 0), (8, iv (s.From + (n : Int)))], [(4, .box (smE s) 104), (5, .box (tmE q) 60), (7, .box (tmE (addV (fsA (itR l s) n) x.Dur)) 60)]⟩) mo (by kernel_rfl) (zE (yl)) (fun j hj => ?_) (fun j c hc β hβ => ?_) ?_
  ·rcases j with _ | _ | j
   ·(iterate 3 refine ⟨.inr ⟨_, rfl, rfl, rfl, rfl, Pur.stepA yQ⟩, ?_⟩);refine ⟨.inr ⟨_, rfl, rfl, rfl, rfl, Pur.stepA (zU (enc := itE) (l := l) (u := x) rfl rfl SlK.h TyK.h (fun _ => rfl) (by omega) hx2)⟩, ?_⟩;(iterate 2 refine ⟨.inr ⟨_, rfl, rfl, rfl, rfl, Pur.stepA yQ⟩, ?_⟩);refine ⟨.inr ⟨_, rfl, rfl, rfl, rfl, zax rfl rfl rfl (LeL.refl _) (zk (fsA (itR l s) n) x.Dur)⟩, ?_⟩;exact yS
   ·exact yS
   ·exact absurd (show j + 2 <= 1 from hj) (by omega)
  ·rcases j with _ | j
   ·obtain rfl : (10, [7, 5, 4, 3, 2, 1, 0, 6, 8]) = c := by injection hc
    refine yw rfl (yG (st0 := ⟨[(23, tmA (fsA (itR l s) n)), (24, itsA l), (25, iv (s.From + (n : Int))), (26, .ept itE x 0), (27, .ept itE x (0 + 6)), (28, tmA x.Dur), (29, .tup [tmA (addV (fsA (itR l s) n) x.Dur), iv (addE (fsA (itR l s) n) x.Dur)]), (22, .tup [tmA (addV (fsA (itR l s) n) x.Dur), iv (addE (fsA (itR l s) n) x.Dur)]), (30, tmA (addV (fsA (itR l s) n) x.Dur)), (31, .ifb (β 9) (iv (addE (fsA (itR l s) n) x.Dur))), (0, itsA l), (4, .ptr 4 0 0 0), (5, .ptr 5 0 0 0), (7, .ptr 7 0 0 0), (8, iv (s.From + (n : Int)))], [(4, .box (smE s) 104), (5, .box (tmE q) 60), (7, .box (tmE (fsA (itR l s) n)) 60)]⟩) (yE) ?_);refine yq (zcp rfl rfl rfl rfl ty60 rfl (leB rfl)) (yE)
   ·exact absurd hc (by simp)
  apply yc;refine yp ?_;refine yL (n + 1) (hI := yx)
 ·have hn : n = (itR l s).length := by omega
  subst hn;apply X.exit;apply yb;refine ya ?_;refine yJ ?_;refine yi ?_;apply Ex.nil;apply yd;apply yb;refine yp ?_;apply X.block
  refine y9 (ι := Nat) (fun (n : Nat) => [(0, itsA l), (4, .ptr 4 0 0 0), (5, .ptr 5 0 0 0), (7, .ptr 7 0 0 0), (9, .ptr 9 0 0 0), (10, iv (s.From + (n : Int)))]) (fun (n : Nat) => [(4, .box (smE s) 104), (5, .box (tmE q) 60), (7, .box (tmE (fsA (itR l s) (itR l s).length)) 60), (9, .box (tmE (fsA (itR l s) n)) 60)]) (fun (n : Nat) => n <= (itR l s).length /\ ∀ j, j < n -> ¬ (subE (fsA (itR l s) (itR l s).length) (fsA (itR l s) j) = 0 /\ subV (fsA (itR l s) (itR l s).length) (fsA (itR l s) j) = q)) (fun (n : Nat) => (itR l s).length - n) 0 (fun n hk => ?_) (hJ := by
   exact ⟨by omega, fun j h => absurd h (Nat.not_lt_zero j)⟩) (h0 := by
   exact yx)
  obtain ⟨hk1, hk2⟩ := hk;apply yd;apply yb;refine yX ?_;refine yk rfl ?_ ?_<;>intro hc2
  ·obtain ⟨x, hx⟩ : ∃ x, (itR l s)[n]? = some x := ⟨_, lgg (by omega)⟩;have hda := zlQ hx;have hx2 : l[(s.From + (n : Int)).toNat]? = some x := hda.2 f0;have hs3 := znB hx;obtain ⟨hs1, hs2, hs4⟩ := hs3;have hs5 : fsA (itR l s) (n + 1) = addV (fsA (itR l s) n) x.Dur := (zfG hs1).symm;have hs6 : setAt (tmE (fsA (itR l s) n)) (0 * 0 + 0) (tmE (addV (fsA (itR l s) n) x.Dur)) = tmE (fsA (itR l s) (n + 1)) := hs1;apply yf;apply yd;apply X.block;apply yb;(iterate 2 refine ya ?_);refine yr (zak (fsA (itR l s) (itR l s).length) (fsA (itR l s) n)) ?_;(iterate 3 refine ya ?_);refine yJ ?_;refine yi ?_;refine ye ?_;apply yd;apply yb;(iterate 2 refine ya ?_);refine ExF.at 2 ?_;refine yC ?_;(iterate 3 refine ExF.gi ?_);refine yA ?_;refine ye ?_;refine yk rfl ?_ ?_<;>intro hc3
   ·have hE := zoN (l := itR l s) (w := q) (n := n) (by omega) hc3.1 hc3.2;apply yb;refine ye ?_;refine X.ret ?_;refine ym ?_;all_goals (rw [hE])
   apply yf;refine X.drawQ [⟨0, 55, tmA (fsA (itR l s) n), []⟩, ⟨1, 56, itsA l, []⟩, ⟨2, 57, iv (s.From + (n : Int)), []⟩, ⟨3, 58, .ept itE x 0, [2, 1]⟩, ⟨4, 59, .ept itE x (0 + 6), [2, 1, 3]⟩, ⟨5, 60, tmA x.Dur, [2, 1, 3, 4]⟩, ⟨6, 61, .tup [tmA (addV (fsA (itR l s) n) x.Dur), iv (addE (fsA (itR l s) n) x.Dur)], [2, 1, 3, 4, 5, 0]⟩, ⟨7, 54, .tup [tmA (addV (fsA (itR l s) n) x.Dur), iv (addE (fsA (itR l s) n) x.Dur)], [2, 1, 3, 4, 5, 0, 6]⟩, ⟨8, 62, tmA (addV (fsA (itR l s) n) x.Dur), [2, 1, 3, 4, 5, 0, 6, 7]⟩, ⟨9, 63, iv (addE (fsA (itR l s) n) x.Dur), [2, 1, 3, 4, 5, 0, 6, 7]⟩] [(10, [7, 5, 4, 3, 2, 1, 0, 6, 8])] (fun j => match j with | 0 => ⟨[(0, itsA l), (4, .ptr 4 0 0 0), (5, .ptr 5 0 0 0), (7, .ptr 7 0 0 0), (9, .ptr 9 0 0 0), (10, iv (s.From + (n : Int)))], [(4, .box (smE s) 104), (5, .box (tmE q) 60), (7, .box (tmE (fsA (itR l s) (itR l s).length)) 60), (9, .box (tmE (fsA (itR l s) n)) 60)]⟩ | _ => ⟨[(0, itsA l), (4, .ptr 4 0 0 0), (5, .ptr 5 0 0 0), (7, .ptr 7 0 0 0), (9, .ptr 9 0 0 0), (10, iv (s.From + (n : Int)))], [(4, .box (smE s) 104), (5, .box (tmE q) 60), (7, .box (tmE (fsA (itR l s) (itR l s).length)) 60), (9, .box (tmE (addV (fsA (itR l s) n) x.Dur)) 60)]⟩) mo (by kernel_rfl) (zE (yl)) (fun j hj => ?_) (fun j c hc β hβ => ?_) ?_
   ·rcases j with _ | _ | j
    ·(iterate 3 refine ⟨.inr ⟨_, rfl, rfl, rfl, rfl, Pur.stepA yQ⟩, ?_⟩);refine ⟨.inr ⟨_, rfl, rfl, rfl, rfl, Pur.stepA (zU (enc := itE) (l := l) (u := x) rfl rfl SlK.h TyK.h (fun _ => rfl) (by omega) hx2)⟩, ?_⟩;(iterate 2 refine ⟨.inr ⟨_, rfl, rfl, rfl, rfl, Pur.stepA yQ⟩, ?_⟩);refine ⟨.inr ⟨_, rfl, rfl, rfl, rfl, zax rfl rfl rfl (LeL.refl _) (zk (fsA (itR l s) n) x.Dur)⟩, ?_⟩;exact yS
    ·exact yS
    ·exact absurd (show j + 2 <= 1 from hj) (by omega)
   ·rcases j with _ | j
    ·obtain rfl : (10, [7, 5, 4, 3, 2, 1, 0, 6, 8]) = c := by injection hc
     refine yw rfl (yG (st0 := ⟨[(55, tmA (fsA (itR l s) n)), (56, itsA l), (57, iv (s.From + (n : Int))), (58, .ept itE x 0), (59, .ept itE x (0 + 6)), (60, tmA x.Dur), (61, .tup [tmA (addV (fsA (itR l s) n) x.Dur), iv (addE (fsA (itR l s) n) x.Dur)]), (54, .tup [tmA (addV (fsA (itR l s) n) x.Dur), iv (addE (fsA (itR l s) n) x.Dur)]), (62, tmA (addV (fsA (itR l s) n) x.Dur)), (63, .ifb (β 9) (iv (addE (fsA (itR l s) n) x.Dur))), (0, itsA l), (4, .ptr 4 0 0 0), (5, .ptr 5 0 0 0), (7, .ptr 7 0 0 0), (9, .ptr 9 0 0 0), (10, iv (s.From + (n : Int)))], [(4, .box (smE s) 104), (5, .box (tmE q) 60), (7, .box (tmE (fsA (itR l s) (itR l s).length)) 60), (9, .box (tmE (fsA (itR l s) n)) 60)]⟩) (yE) ?_);refine yq (zcp rfl rfl rfl rfl ty60 rfl (leB rfl)) (yE)
    ·exact absurd hc (by simp)
   apply yc;refine yp ?_
   refine yL (n + 1) (hJ := by
    refine ⟨by omega, fun j hj => ?_⟩;rcases Nat.lt_succ_iff_lt_or_eq.1 hj with h | h
    ·exact hk2 j h
    ·subst h; intro hh; rcases hc3 with hc3 | hc3; (exact hc3 hh.1); (exact hc3 hh.2)) (hI := yx)
  ·have hE := zq2 (l := itR l s) (w := q) fun j hj => hk2 j (by omega)
   apply X.exit;apply yb;refine ye ?_;refine X.ret ?_;refine ym ?_;all_goals (rw [hE])
end Go.Rse
namespace Go.Rse
open Go Go.Proofs
attribute [local irreducible] Pur yK yM Ex X Fn Imp LeV LeB FnO It yW FnW FnOW
theorem zoO (M : List Int) (n : Nat) : rfLo M n = (decide (0 < (n : Int)) && (decide (M.getD ((n : Int) - 1).toNat default = 2) || decide (M.getD ((n : Int) - 1).toNat default = 3))) := by
 unfold rfLo;rw [show ((n : Int) - 1).toNat = n - 1 by omega]
 have : decide (0 < n) = decide (0 < (n : Int)) := by
  by_cases h : 0 < n
  ·rw [decide_eq_true h, decide_eq_true (by omega)]
  ·rw [decide_eq_false h, decide_eq_false (by omega)]
 rw [this]; rfl
theorem zq3 {u : Tm} {k : Int} {l now : List Ite} {lo : Bool} {s : Sgm} (h : s.Left < 0 \/ lgQ u (itg now s.Left) = false) : rfPo u k l now lo s = false := by
 unfold rfPo;rcases h with h | h
 ·rw [decide_eq_true h]; rfl
 ·rw [h]; simp
theorem zq4 {u : Tm} {k : Int} {l now : List Ite} {lo : Bool} {s : Sgm} (h : lo = true) (h2 : (itg l s.Left).Value = k) : rfPo u k l now lo s = false := by
 unfold rfPo; rw [h, decide_eq_true h2]; simp
theorem zq5 {u : Tm} {k : Int} {l now : List Ite} {lo : Bool} {s : Sgm} (h : 0 <= s.Left /\ lgQ u (itg now s.Left) = true) (h2 : (lo && decide ((itg l s.Left).Value = k)) = false) : rfPo u k l now lo s = rcQ u (fsL (itR l s)) (itg l s.Left).After := by
 unfold rfPo; rw [h.2, decide_eq_false (show ¬ s.Left < 0 by omega), h2]; rfl
theorem zq6 {u : Tm} {k : Int} {l now : List Ite} {s : Sgm} (h : s.Right < 0 \/ lgQ u (itg now s.Right) = false) : rfAn u k l now s = false := by
 unfold rfAn;rcases h with h | h
 ·rw [decide_eq_true h]; rfl
 ·rw [h]; simp
theorem zq7 {u : Tm} {k : Int} {l now : List Ite} {s : Sgm} (h : rfBl k l s.Right = true) : rfAn u k l now s = false := by
 unfold rfAn; rw [h]; simp
theorem zq8 {u : Tm} {k : Int} {l now : List Ite} {s : Sgm} (h : 0 <= s.Right /\ lgQ u (itg now s.Right) = true) (h2 : rfBl k l s.Right = false) : rfAn u k l now s = rcQ u (rlaL (itR l s)) (itg l s.Right).Before := by
 unfold rfAn; rw [h.2, decide_eq_false (show ¬ s.Right < 0 by omega), h2]; rfl
theorem zq9 {k : Int} {l : List Ite} {h : Int} (hh : ((((itg l h).Value = k /\ (itg l h).Cut = 0) /\ h + 1 < (l.length : Int)) /\ (itg l (h + 1)).Color = false) /\ (itg l (h + 1)).Value = k) : rfBl k l h = true := by
 unfold rfBl; rw [decide_eq_true hh.1.1.1.1, decide_eq_true hh.1.1.1.2, decide_eq_true hh.1.1.2, hh.1.2, decide_eq_true hh.2]; rfl
theorem zra {k : Int} {l : List Ite} {h : Int} (hh : (((¬ (itg l h).Value = k \/ ¬ (itg l h).Cut = 0) \/ (l.length : Int) <= h + 1) \/ (itg l (h + 1)).Color = true) \/ ¬ (itg l (h + 1)).Value = k) : rfBl k l h = false := by
 unfold rfBl;rcases hh with (((hh | hh) | hh) | hh) | hh
 ·rw [decide_eq_false hh]; simp
 ·rw [decide_eq_false hh]; simp
 ·rw [decide_eq_false (show ¬ h + 1 < (l.length : Int) by omega)]; simp
 ·rw [hh]; simp
 ·rw [decide_eq_false hh]; simp
theorem zrb {u : Tm} {k : Int} {l : List Ite} {s : Sgm} (h : (s.From = s.To \/ s.Free = true) \/ (0 <= s.Right /\ ¬ (itg l s.Right).Before.N = 0)) : rfAt u k l s = false := by
 unfold rfAt;rcases h with (h | h) | h
 ·rw [decide_eq_true h]; simp
 ·rw [h]; simp
 ·rw [decide_eq_false (show ¬ s.Right < 0 by omega), decide_eq_false h.2]; simp
theorem zrc {u : Tm} {k : Int} {l : List Ite} {s : Sgm} (h : (¬ s.From = s.To /\ s.Free = false) /\ (s.Right < 0 \/ (itg l s.Right).Before.N = 0)) : rfAt u k l s = ntQ u k (itg l (s.To - 1)) := by
 unfold rfAt;rw [decide_eq_false h.1.1, h.1.2];rcases h.2 with h | h
 ·rw [decide_eq_true h]; simp
 ·rw [decide_eq_true h]; simp
theorem zgT {l : List Ite} {i : Int} (h0 : 0 <= i) (h : i < l.length) : l[i.toNat]? = some (itg l i) := by
 unfold itg;rw [List.getD_eq_getElem?_getD, lgg (by omega)]; rfl
theorem zrd {u : Tm} {k : Int} {S : List Sgm} {l now : List Ite} {M : List Int} {n : Nat} {s : Sgm} (h : S[n]? = some s) : rfA u k S l now M n = rfR (rfPo u k l now (rfLo M n) s) (rfAn u k l now s) (rfAt u k l s) s := by
 have : S.getD n default = s := by rw [List.getD_eq_getElem?_getD, h]; rfl
 unfold rfA; simp only; rw [this]
attribute [local irreducible] fsL fsA lgQ rcQ rlaL cmpV addV addE subV subE drL rfLo itR rfPo rfAn rfAt rfA
theorem zaN (u : Tm) (k : Int) (l now : List Ite) (S : List Sgm) (M : List Int) (i : Int) (h0 : 0 <= i) (h1 : i < now.length) : Fn Tryz.prog 256 [.ept (fun _ : Unit => [iv u.N, iv u.D, iv k, itsA l, itsA now, smsA S, yg M]) () 0, iv i] (.bool (lgQ u (itg now i))) := by
 have hx := zgT h0 h1;have hq : lgQ u (itg now i) = decide (0 < cmpV (itg now i).Dur u) := by unfold lgQ; rfl
 refine Fn.go Tryz.func256 Tryz.ntmps256 (fun g w d => ?_);apply yb;refine ye ?_;apply yd;refine zi [5,6,7,8,9,10,11,12,13,14,15,16,17,18,19,20,21,22] [0,1,3,7,0,31,63,127,0,256,768,1792,4095,8191,16383,16383,32767,131071] mo ?_;iterate 12 refine yj ?_
 refine zj (zdp (itg now i).Dur u) ?_;iterate 5 refine yj ?_
 refine yR ?_;apply yn;refine yp ?_;refine X.ret ?_;refine ym ?_;all_goals (rw [hq])
set_option maxHeartbeats 2000000 in
theorem zW (u : Tm) (k : Int) (l now : List Ite) (S : List Sgm) (M : List Int) (n : Nat) (s : Sgm) (hn : S[n]? = some s) (hs : SgB l.length s) (hl : l.length <= 1000000) (hnl : now.length = l.length) (hM : n <= M.length) (hn1 : n <= 4000000) : Fn Tryz.prog 211 [.ept (fun _ : Unit => [iv u.N, iv u.D, iv k, itsA l, itsA now, smsA S, yg M]) () 0, iv n] (.bool (rfPo u k l now (rfLo M n) s)) := by
 have f0 := hs.f0;have ft := hs.ft;have tn := hs.tn;have lf := hs.lf;have rt := hs.rt;have hn2 : S[(n : Int).toNat]? = some s := by simpa using hn
 have hlo := zoO M n;refine Fn.go Tryz.func211 Tryz.ntmps211 (fun g w d => ?_);apply yb;refine ya ?_;apply yn;iterate 7 refine ya ?_
 refine yJ ?_;refine yi ?_;apply Ex.nil;apply yd;apply yb;iterate 3 refine ya ?_
 refine ExF.at 3 ?_;refine yC ?_;iterate 3 refine ExF.gi ?_
 refine ExF.cp (fun hgd => (zaN u k l now S M s.Left (by first | omega | exact hgd) (by omega))) ?_;refine ExF.gi ?_;refine yA ?_;refine ye ?_;refine yk rfl ?_ ?_<;>intro hc1
 ·have hE : rfPo u k l now (rfLo M n) s = false := zq3 hc1;apply yb;refine ye ?_;refine X.ret ?_;refine ym ?_;all_goals (first | (rw [hE, hq]; done) | (rw [hE]; done))
 have hx := zgT (l := l) (i := s.Left) hc1.1 lf;apply yf;iterate 2 apply yd
 refine zi [25,26,27,28,29,30,31,32,33,34,35,36,37,38,39,40,41,42,43,44,45,46,47,48,49,50,51,52,53,54,55,56,57,58,59,60,61,62,63,64] [0,1,3,7,15,31,63,7,135,511,1023,2047,4095,8191,16383,32767,65535,8191,139263,524287,1048575,2097151,4194303,8388607,16777215,33554431,67108863,134217727,268435455,33554431,570425343,2147483647,4294967295,8589934591,33554431,17213423615,51573161983,120292638719,274877906943,549755813887] mo ?_;iterate 3 refine yj ?_
 iterate 20 refine ChM.gi ?_
 iterate 2 refine yj ?_
 iterate 14 refine ChM.gi ?_
 refine yj ?_;refine yR ?_;apply Ex.nil;refine yk rfl ?_ ?_<;>intro hc2
 ·have hL : rfLo M n = true := by rw [hlo, decide_eq_true hc2.1.1]; rcases hc2.1.2 with h | h <;> rw [decide_eq_true h] <;> simp
  have hE : rfPo u k l now (rfLo M n) s = false := zq4 hL hc2.2;apply yb;refine ye ?_;refine X.ret ?_;refine ym ?_;all_goals (first | (rw [hE, hq]; done) | (rw [hE]; done))
 have hL : (rfLo M n && decide ((itg l s.Left).Value = k)) = false := by
  rw [hlo]; rcases hc2 with (h | h) | h
  ·rw [decide_eq_false (by omega)]; rfl
  ·rw [decide_eq_false h.1, decide_eq_false h.2]; simp
  ·rw [decide_eq_false h]; simp
 have hE : rfPo u k l now (rfLo M n) s = rcQ u (fsL (itR l s)) (itg l s.Left).After := zq5 hc1 hL;have hq : rcQ u (fsL (itR l s)) (itg l s.Left).After = (decide (addE (itg l s.Left).After u = 0) && decide (addV (itg l s.Left).After u ∈ fsL (itR l s))) := by unfold rcQ; rfl
 apply yf;apply yd;refine zi [6,65,66,67,68,69,70,71,72,73,74,75,76,77,78,79,80,81] [0,1,3,7,0,16,63,127,255,0,512,1536,3584,8191,16383,32767,32767,0,196607,524287] mo ?_;iterate 13 refine yj ?_
 refine zj (zk (itg l s.Left).After u) ?_;iterate 3 refine yj ?_
 refine ChM.step rfl rfl rfl (zA (k := 6) zc60) rfl ?_;refine ChM.lt 16 ?_ ?_
 ·refine yi ?_;refine ye ?_;apply yd;refine zi [4,82,83,84,85,86,87,88,89,90,91,92] [0,1,3,7,15,31,63,7,7,511,1023,2047] mo ?_;iterate 3 refine yj ?_
  iterate 6 refine ChM.gi ?_
  refine ChM.cg (zbN l s (addV (itg l s.Left).After u) hs hl) ?_;iterate 2 refine yj ?_
  refine yR ?_;apply Ex.nil;refine X.ret ?_;refine ym ?_;all_goals (first | (rw [hE, hq]; done) | (rw [hE]; done))
 ·refine yi ?_;refine yh ?_;apply yd;refine zi [4,82,83,84,85,86,87,88,89,90,91,92] [0,1,3,7,15,31,63,7,7,511,1023,2047] mo ?_;iterate 3 refine yj ?_
  iterate 6 refine ChM.gi ?_
  refine ChM.cg (zbN l s (addV (itg l s.Left).After u) hs hl) ?_;iterate 2 refine yj ?_
  refine yR ?_;apply Ex.nil;refine X.ret ?_;refine ym ?_;all_goals (first | (rw [hE, hq]; done) | (rw [hE]; done))
set_option maxHeartbeats 2000000 in
theorem zX (u : Tm) (k : Int) (l now : List Ite) (S : List Sgm) (M : List Int) (n : Nat) (s : Sgm) (hn : S[n]? = some s) (hs : SgB l.length s) (hl : l.length <= 1000000) (hnl : now.length = l.length) (hn1 : n <= 4000000) : Fn Tryz.prog 212 [.ept (fun _ : Unit => [iv u.N, iv u.D, iv k, itsA l, itsA now, smsA S, yg M]) () 0, iv n] (.bool (rfAn u k l now s)) := by
 have f0 := hs.f0;have ft := hs.ft;have tn := hs.tn;have lf := hs.lf;have rt := hs.rt;have hn2 : S[(n : Int).toNat]? = some s := by simpa using hn
 refine Fn.go Tryz.func212 Tryz.ntmps212 (fun g w d => ?_);apply yb;refine ya ?_;apply yn;iterate 7 refine ya ?_
 refine yJ ?_;refine yi ?_;apply Ex.nil;apply yd;apply yb;iterate 3 refine ya ?_
 refine ExF.at 3 ?_;refine yC ?_;iterate 3 refine ExF.gi ?_
 refine ExF.cp (fun hgd => (zaN u k l now S M s.Right (by first | omega | exact hgd) (by omega))) ?_;refine ExF.gi ?_;refine yA ?_;refine ye ?_;refine yk rfl ?_ ?_<;>intro hc1
 ·have hE : rfAn u k l now s = false := zq6 hc1;apply yb;refine ye ?_;refine X.ret ?_;refine ym ?_;all_goals (first | (rw [hE, hq]; done) | (rw [hE]; done))
 have hx := zgT (l := l) (i := s.Right) hc1.1 rt;apply yf;apply yd;refine zi [6,26,27,28,29,30,31,32,33] [0,1,3,7,0,16,63,127,0,511] mo ?_;iterate 8 refine yj ?_
 refine ChM.step rfl rfl rfl (zA (k := 6) zc62) rfl ?_;refine yR ?_;refine yi ?_;apply Ex.nil;iterate 2 apply yd
 refine zi [34,35,36,37,38,39,40,41,42,43,44,45,46,47,48,49,50,51,52,53,54,55,56,57,58,59,60,61,62,63,64,65,66,67,68,69,70,71,72,73,74,75,76,77,78,79,80,81,82,83,84,85,86] [0,1,0,4,12,28,63,127,255,511,1023,2047,4095,8191,16383,32767,8191,73727,204799,466943,991231,2097151,4194303,8388607,16777215,33554431,67108863,134217727,16777215,285212671,822083583,2147483647,4294967295,8589934591,17179869183,34359738367,68719476735,137438953471,274877906943,549755813887,1099511627775,137438953471,2336462209023,6734508720127,17592186044415,35184372088831,70368744177663,137438953471,140874927308799,422349904019455,985299857440767,2251799813685247,4503599627370495] mo ?_;iterate 8 refine yj ?_
 iterate 3 refine ChM.gi ?_
 iterate 2 refine yj ?_
 iterate 9 refine ChM.gi ?_
 iterate 2 refine yj ?_
 iterate 11 refine ChM.gi ?_
 iterate 2 refine yj ?_
 iterate 15 refine ChM.gi ?_
 refine yj ?_;refine yR ?_;apply Ex.nil;refine yk rfl ?_ ?_<;>intro hc2
 ·have hE : rfAn u k l now s = false := zq7 (zq9 hc2);apply yb;refine ye ?_;refine X.ret ?_;refine ym ?_;all_goals (first | (rw [hE, hq]; done) | (rw [hE]; done))
 have hE : rfAn u k l now s = rcQ u (rlaL (itR l s)) (itg l s.Right).Before := zq8 hc1 (zra hc2);have hq : rcQ u (rlaL (itR l s)) (itg l s.Right).Before = (decide (addE (itg l s.Right).Before u = 0) && decide (addV (itg l s.Right).Before u ∈ rlaL (itR l s))) := by unfold rcQ; rfl
 apply yf;apply yd;refine zi [7,87,88,89,90,91,92,93,94,95,96] [0,1,0,4,12,28,63,127,255,255,0,1535,4095] mo ?_;iterate 6 refine yj ?_
 refine zj (zk (itg l s.Right).Before u) ?_;iterate 3 refine yj ?_
 refine ChM.step rfl rfl rfl (zA (k := 7) zc60) rfl ?_;refine ChM.lt 9 ?_ ?_
 ·refine yi ?_;refine ye ?_;apply yd;refine zi [4,97,98,99,100,101,102,103,104,105,106,107] [0,1,3,7,15,31,63,7,7,511,1023,2047] mo ?_;iterate 3 refine yj ?_
  iterate 6 refine ChM.gi ?_
  refine ChM.cg (zcg l s (addV (itg l s.Right).Before u) hs hl) ?_;iterate 2 refine yj ?_
  refine yR ?_;apply Ex.nil;refine X.ret ?_;refine ym ?_;all_goals (first | (rw [hE, hq]; done) | (rw [hE]; done))
 ·refine yi ?_;refine yh ?_;apply yd;refine zi [4,97,98,99,100,101,102,103,104,105,106,107] [0,1,3,7,15,31,63,7,7,511,1023,2047] mo ?_;iterate 3 refine yj ?_
  iterate 6 refine ChM.gi ?_
  refine ChM.cg (zcg l s (addV (itg l s.Right).Before u) hs hl) ?_;iterate 2 refine yj ?_
  refine yR ?_;apply Ex.nil;refine X.ret ?_;refine ym ?_;all_goals (first | (rw [hE, hq]; done) | (rw [hE]; done))
set_option maxHeartbeats 2000000 in
theorem zaF (u : Tm) (k : Int) (l now : List Ite) (S : List Sgm) (M : List Int) (n : Nat) (s : Sgm) (hn : S[n]? = some s) (hs : SgB l.length s) (hl : l.length <= 1000000) (hnl : now.length = l.length) (hn1 : n <= 4000000) (k0 : -9223372036854775808 <= k) (k1 : k + 1 <= 9223372036854775807) : Fn Tryz.prog 213 [.ept (fun _ : Unit => [iv u.N, iv u.D, iv k, itsA l, itsA now, smsA S, yg M]) () 0, iv n] (.bool (rfAt u k l s)) := by
 have f0 := hs.f0;have ft := hs.ft;have tn := hs.tn;have lf := hs.lf;have rt := hs.rt;have hn2 : S[(n : Int).toNat]? = some s := by simpa using hn
 refine Fn.go Tryz.func213 Tryz.ntmps213 (fun g w d => ?_);apply yb;refine ya ?_;apply yn;iterate 7 refine ya ?_
 refine yJ ?_;refine yi ?_;apply Ex.nil;iterate 2 apply yd
 refine zi [14,15,16,17,18,19,20,21,22,23,24,25,26,27,28,29,30,31,32,33,34,35,36,37,38,39,40] [0,1,0,4,15,31,63,127,255,511,1023,2047,4095,8191,16383,32767,65535,131071,16383,278527,1048575,2097151,4194303,8388607,16777215,33554431,67108863] mo ?_;iterate 6 refine yj ?_
 iterate 2 refine ChM.gi ?_
 iterate 2 refine yj ?_
 iterate 16 refine ChM.gi ?_
 refine yj ?_;refine yR ?_;apply Ex.nil;refine yk rfl ?_ ?_<;>intro hc1
 ·have hE : rfAt u k l s = false := zrb hc1;apply yb;refine ye ?_;refine X.ret ?_;refine ym ?_;all_goals (first | (rw [hE]; done) | (rw [hE]; unfold ntQ; rfl))
 have hx := zgT (l := l) (i := s.To - 1) (by omega) (by omega);have hE : rfAt u k l s = ntQ u k (itg l (s.To - 1)) := zrc hc1;apply yf;apply yd;refine zi [6,41,42,43,44,45,46,47,48,49] [0,1,3,7,0,16,48,127,255,0,1023] mo ?_;iterate 9 refine yj ?_
 refine ChM.step rfl rfl rfl (zA (k := 6) zc62) rfl ?_;refine yR ?_;refine yi ?_;apply Ex.nil;apply yd;refine zi [4,50,51,52,53,54,55,56,57,58,59,60,61,62,63,64,65,66,67,68,69,70,71,72,73,74,75,76,77,78,79,80,81] [0,1,3,7,15,31,63,127,255,511,1023,2047,4095,8191,16383,32767,16383,81919,212991,475135,999423,2097151,4194303,8388607,16777215,33554431,16777215,83886079,218103807,486539263,1073741823,2147483647,4294967295] mo ?_;iterate 4 refine yj ?_
 iterate 3 refine ChM.gi ?_
 iterate 2 refine yj ?_
 iterate 3 refine ChM.gi ?_
 iterate 2 refine yj ?_
 iterate 8 refine ChM.gi ?_
 iterate 2 refine yj ?_
 iterate 7 refine ChM.gi ?_
 iterate 2 refine yj ?_
 refine yR ?_;apply Ex.nil;refine X.ret ?_;refine ym ?_;all_goals (first | (rw [hE]; done) | (rw [hE]; unfold ntQ; rfl))
set_option maxHeartbeats 2000000 in
theorem zI (u : Tm) (k : Int) (l now : List Ite) (S : List Sgm) (M : List Int) (s : Sgm) (hn : S[M.length]? = some s) (hs : SgB l.length s) (hl : l.length <= 1000000) (hnl : now.length = l.length) (hM : M.length <= 4000000) (k0 : -9223372036854775808 <= k) (k1 : k + 1 <= 9223372036854775807) (hN : 0 <= s.Count.N) : FnOW Tryz.prog 135 [.ept (fun _ : Unit => [iv u.N, iv u.D, iv k, itsA l, itsA now, smsA S, yg M]) () 0] intE (rfA u k S l now M M.length) 3 1 (fun _ _ _ => True) := by
 have hn2 : S[(M.length : Int).toNat]? = some s := by simpa using hn
 have hA := zrd (u := u) (k := k) (l := l) (now := now) (M := M) hn;refine FnOW.go Tryz.func135 Tryz.ntmps135 (rv := [.tmp 2]) (fun g w d hH hfr => ?_);apply yb;refine ya ?_;apply yn;iterate 6 refine ya ?_
 apply yn;iterate 7 refine ya ?_
 refine yJ ?_;refine yi ?_;apply yn;refine ye ?_;iterate 2 apply yd
 refine y3 (yZ intE 3 1 5 5 rfl rfl) ?_;apply yc;refine yh ?_;refine yk rfl ?_ ?_<;>intro hc1
 ·apply yb;refine ya ?_;refine yO intE [(0 : Int)] ?_;refine yi ?_;refine ye ?_;apply yd;apply yb;iterate 4 refine ya ?_
  refine ExF.at 4 ?_;refine yC ?_;iterate 5 refine ExF.gi ?_
  iterate 2 refine yC ?_
  iterate 2 refine ExF.gi ?_
  refine ExF.cg (zW u k l now S M M.length s hn hs hl hnl (Nat.le_refl _) hM) ?_;refine yA ?_;refine ye ?_;refine yk rfl ?_ ?_<;>intro hc2
  ·apply yc;refine ya ?_;refine yO intE [(1 : Int)] ?_;refine yi ?_;refine ya ?_;apply Ex.nil;apply yd;apply yc;refine yh ?_;refine X.ret ?_;have he : ([] ++ [(0 : Int)]) ++ [(1 : Int)] = rfA u k S l now M M.length := by rw [hA]; unfold rfR; rw [if_pos hc1, if_pos ⟨hc2.1.1, hc2.1.2, hc2.2⟩] <;> rfl
   refine ⟨.inr rfl, [(2, .own 5)], [], yl, .one (.tmp rfl (LeV.eq rfl))⟩
  ·apply yf;apply yb;refine yh ?_;refine X.ret ?_
   have he : [] ++ [(0 : Int)] = rfA u k S l now M M.length := by
    rw [hA]; unfold rfR; rw [if_pos hc1, if_neg (fun hh => by rcases hc2 with (h | h) | h; (exact h hh.1); (exact h hh.2.1); (rw [hh.2.2] at h; cases h))] <;> rfl
   refine ⟨.inr rfl, [(2, .own 5)], [], yl, .one (.tmp rfl (LeV.eq rfl))⟩
 apply yf;apply yd;apply yb;refine yX ?_;apply X.block;apply yb;refine yh ?_;refine yk rfl ?_ ?_<;>intro hc3
 ·apply yc;refine ya ?_;refine yO intE [(0 : Int)] ?_;refine yi ?_;refine ya ?_;apply Ex.nil;apply yd;apply yc;refine yh ?_;refine X.ret ?_;have he : [] ++ [(0 : Int)] = rfA u k S l now M M.length := by rw [hA]; unfold rfR; rw [if_neg (by rw [hc1]; simp), if_pos hc3] <;> rfl
  refine ⟨.inr rfl, [(2, .own 5)], [], yl, .one (.tmp rfl (LeV.eq rfl))⟩
 ·apply yb;refine yh ?_;refine yk rfl ?_ ?_<;>intro hc4
  ·apply yd;apply yb;(iterate 2 refine ya ?_);refine yr (zW u k l now S M M.length s hn hs hl hnl (Nat.le_refl _) hM) ?_;apply Ex.nil;refine yk rfl ?_ ?_<;>intro hc5
   ·apply yc;refine ya ?_;refine yO intE [(1 : Int)] ?_;refine yi ?_;refine ya ?_;apply Ex.nil;apply yd;apply yc;(iterate 2 refine ya ?_);refine yr (zX u k l now S M M.length s hn hs hl hnl hM) ?_;apply Ex.nil;refine yk rfl ?_ ?_<;>intro hc6
    ·apply yc;refine ya ?_;refine yO intE [(2 : Int)] ?_;refine yi ?_;refine ya ?_;apply Ex.nil;apply yd;apply yc;refine yh ?_;refine X.ret ?_;have he : ([] ++ [(1 : Int)]) ++ [(2 : Int)] = rfA u k S l now M M.length := by rw [hA]; unfold rfR; rw [if_neg (by rw [hc1]; simp), if_neg hc3, if_pos hc4, if_pos hc5, if_pos hc6] <;> rfl
     refine ⟨.inr rfl, [(2, .own 5)], [], yl, .one (.tmp rfl (LeV.eq rfl))⟩
    ·apply yf;apply yb;refine yh ?_;refine X.ret ?_;have he : [] ++ [(1 : Int)] = rfA u k S l now M M.length := by rw [hA]; unfold rfR; rw [if_neg (by rw [hc1]; simp), if_neg hc3, if_pos hc4, if_pos hc5, if_neg (by rw [hc6]; simp)] <;> rfl
     refine ⟨.inr rfl, [(2, .own 5)], [], yl, .one (.tmp rfl (LeV.eq rfl))⟩
   ·apply yf;apply yb;(iterate 2 refine ya ?_);refine yr (zX u k l now S M M.length s hn hs hl hnl hM) ?_;apply Ex.nil;refine yk rfl ?_ ?_<;>intro hc7
    ·apply yc;refine ya ?_;refine yO intE [(2 : Int)] ?_;refine yi ?_;refine ya ?_;apply Ex.nil;apply yd;apply yc;refine yh ?_;refine X.ret ?_;have he : [] ++ [(2 : Int)] = rfA u k S l now M M.length := by rw [hA]; unfold rfR; rw [if_neg (by rw [hc1]; simp), if_neg hc3, if_pos hc4, if_neg (by rw [hc5]; simp), if_pos hc7] <;> rfl
     refine ⟨.inr rfl, [(2, .own 5)], [], yl, .one (.tmp rfl (LeV.eq rfl))⟩
    ·apply yf;apply yb;refine yh ?_;refine X.ret ?_;have he : [] = rfA u k S l now M M.length := by rw [hA]; unfold rfR; rw [if_neg (by rw [hc1]; simp), if_neg hc3, if_pos hc4, if_neg (by rw [hc5]; simp), if_neg (by rw [hc7]; simp)] <;> rfl
     refine ⟨.inr rfl, [(2, .own 5)], [], yl, .one (.tmp rfl (LeV.eq rfl))⟩
  ·apply yd;apply yb;(iterate 2 refine ya ?_);refine yr (zW u k l now S M M.length s hn hs hl hnl (Nat.le_refl _) hM) ?_;refine ExF.at 3 ?_;refine yC ?_;(iterate 2 refine ExF.gi ?_);refine ExF.cg (zX u k l now S M M.length s hn hs hl hnl hM) ?_;refine yA ?_;refine ye ?_;refine yk rfl ?_ ?_<;>intro hc8
   ·apply yc;refine ya ?_;refine yO intE [(3 : Int)] ?_;refine yi ?_;refine ya ?_;apply Ex.nil;apply yd;apply yc;(iterate 2 refine ya ?_);refine yr (zaF u k l now S M M.length s hn hs hl hnl hM k0 k1) ?_;apply Ex.nil;refine yk rfl ?_ ?_<;>intro hc9
    ·apply yc;refine ya ?_;refine yO intE [(4 : Int)] ?_;refine yi ?_;refine ya ?_;apply Ex.nil;apply yd;apply yc;refine yh ?_;refine X.ret ?_;have he : ([] ++ [(3 : Int)]) ++ [(4 : Int)] = rfA u k S l now M M.length := by rw [hA]; unfold rfR; rw [if_neg (by rw [hc1]; simp), if_neg hc3, if_neg hc4, if_pos hc8, if_pos hc9] <;> rfl
     refine ⟨.inr rfl, [(2, .own 5)], [], yl, .one (.tmp rfl (LeV.eq rfl))⟩
    ·apply yf;apply yb;refine yh ?_;refine X.ret ?_;have he : [] ++ [(3 : Int)] = rfA u k S l now M M.length := by rw [hA]; unfold rfR; rw [if_neg (by rw [hc1]; simp), if_neg hc3, if_neg hc4, if_pos hc8, if_neg (by rw [hc9]; simp)] <;> rfl
     refine ⟨.inr rfl, [(2, .own 5)], [], yl, .one (.tmp rfl (LeV.eq rfl))⟩
   ·apply yf;apply yb;(iterate 2 refine ya ?_);refine yr (zaF u k l now S M M.length s hn hs hl hnl hM k0 k1) ?_;apply Ex.nil;refine yk rfl ?_ ?_<;>intro hc10
    ·apply yc;refine ya ?_;refine yO intE [(4 : Int)] ?_;refine yi ?_;refine ya ?_;apply Ex.nil;apply yd;apply yc;refine yh ?_;refine X.ret ?_;have he : [] ++ [(4 : Int)] = rfA u k S l now M M.length := by rw [hA]; unfold rfR; rw [if_neg (by rw [hc1]; simp), if_neg hc3, if_neg hc4, if_neg (fun hh => by rcases hc8 with h | h; (rw [hh.1] at h; cases h); (rw [hh.2] at h; cases h)), if_pos hc10] <;> rfl
     refine ⟨.inr rfl, [(2, .own 5)], [], yl, .one (.tmp rfl (LeV.eq rfl))⟩
    ·apply yf;apply yb;refine yh ?_;refine X.ret ?_;have he : [] = rfA u k S l now M M.length := by rw [hA]; unfold rfR; rw [if_neg (by rw [hc1]; simp), if_neg hc3, if_neg hc4, if_neg (fun hh => by rcases hc8 with h | h; (rw [hh.1] at h; cases h); (rw [hh.2] at h; cases h)), if_neg (by rw [hc10]; simp)] <;> rfl
     refine ⟨.inr rfl, [(2, .own 5)], [], yl, .one (.tmp rfl (LeV.eq rfl))⟩
end Go.Rse
namespace Go.Rse
open Go Go.Proofs
attribute [local irreducible] Pur yK yM Ex X Fn Imp LeV LeB FnO It yW FnW FnOW
theorem zjg {l : List Ite} {i : Int} (h0 : 0 <= i) (h : i < l.length) : l[i.toNat]? = some (itg l i) := by
 unfold itg;rw [List.getD_eq_getElem?_getD, lgg (by omega)]; rfl
theorem zoP {l : List Ite} {s : Sgm} {e : Int} {u : Tm} (h : cnA l s = (tmZ, e)) (h0 : ¬ e = 0) : cnE u l s = e /\ cnV u l s = tmZ := by
 have := znw (u := u) (l := l) (s := s) (by rw [h]; exact h0);rw [h] at this; exact this
theorem zre {l : List Ite} {s : Sgm} {A : Tm} (h : cnA l s = (A, 0)) : cnB l s = cn1 A s.Left (itg l s.Left).After := by unfold cnB; rw [h, if_pos rfl]
theorem znL {l : List Ite} {s : Sgm} {B : Tm} (h : cnB l s = (B, 0)) : cnC l s = cn1 B s.Right (itg l s.Right).Before := by unfold cnC; rw [h, if_pos rfl]
theorem zoQ {l : List Ite} {s : Sgm} {e : Int} (h : cnB l s = (tmZ, e)) (h0 : ¬ e = 0) : cnC l s = (tmZ, e) := by unfold cnC; rw [h, if_neg h0]
theorem znM {t d : Tm} {h : Int} (hh : h < 0) : cn1 t h d = (t, 0) := by unfold cn1; rw [if_pos hh]
theorem znN {t d : Tm} {h : Int} (hh : 0 <= h) (he : lsE t d = 0) : cn1 t h d = (if lsE t d = 0 then subV t d else tmZ, 0) := by unfold cn1; rw [if_neg (by omega), if_pos he, if_pos he]
theorem znO {t d : Tm} {h : Int} (hh : 0 <= h) (he : ¬ lsE t d = 0) : cn1 t h d = (tmZ, lsE t d) := by unfold cn1; rw [if_neg (by omega), if_neg he]
theorem zlS {u : Tm} {l : List Ite} {s : Sgm} {t : Tm} (h : cnC l s = (t, 0)) : cnE u l s = divE t u /\ cnV u l s = divV t u := by
 have := zny (u := u) (l := l) (s := s) (by rw [h]);rw [h] at this; exact this
theorem znP {u : Tm} {l : List Ite} {s : Sgm} {e : Int} (h : cnC l s = (tmZ, e)) (h0 : ¬ e = 0) : cnE u l s = e /\ cnV u l s = tmZ := by
 have := znx (u := u) (l := l) (s := s) (by rw [h]; exact h0);rw [h] at this; exact this
def sgM (u : Tm) (l : List Ite) (L : List Sgm) (n : Nat) : List Sgm := (L.take n).map (segW u l)
theorem zsJ (u : Tm) (l : List Ite) (L : List Sgm) : [] = sgM u l L 0 := by unfold sgM; rw [List.take_zero]; rfl
theorem zsK {u : Tm} {l : List Ite} {L : List Sgm} {n : Nat} {s : Sgm} (h : L[n]? = some s) : sgM u l L n ++ [segW u l s] = sgM u l L (n + 1) := by
 unfold sgM; rw [List.take_add_one, h, List.map_append]; rfl
theorem zoR (u : Tm) (l : List Ite) (L : List Sgm) (n : Nat) : (sgM u l L n).length <= n := by unfold sgM; rw [List.length_map, List.length_take]; omega
theorem zoS (u : Tm) (l : List Ite) (L : List Sgm) : sgM u l L L.length = L.map (segW u l) := by unfold sgM; rw [List.take_length]
theorem zlT (k : Int) (l : List Ite) (n : Nat) : (bdsT k l)[n]? = (bds k l)[n]?.map bdT := by unfold bdsT; rw [List.getElem?_map]
theorem zsL (k : Int) (l : List Ite) : 1 <= (bds k l).length /\ (bds k l).length <= 2 * l.length + 2 := by
 have := zco k l l.length;rw [zcX]; omega
theorem zp2 {k : Int} {l : List Ite} {n : Nat} {b : Bd} (h : (bds k l)[n]? = some b) : b.item < l.length := by
 have := (zkv k l).1 b (List.mem_of_getElem? h);have hi := this.hi;rcases this.it with h | h <;> omega
theorem zjh {k : Int} {l : List Ite} : ∀ n, ∀ b ∈ bdK k l n, b.fin = false
 | 0, b, h => by simp [bdK] at h; subst h; rfl
 | n + 1, b, h => by
  cases hx : l[n]? with
  | none =>
   have e : bdK k l (n + 1) = bdK k l n := by
    conv => lhs; unfold bdK
    rw [hx]
   rw [e] at h; exact zjh n b h
  | some x =>
   rw [zbB hx] at h;rcases List.mem_append.1 h with h | h
   ·rcases List.mem_append.1 h with h | h
    ·exact zjh n b h
    ·split at h
     ·simp at h; subst h; rfl
     ·simp at h
   ·split at h
    ·simp at h; subst h; rfl
    ·simp at h
theorem zoT {k : Int} {l : List Ite} {n : Nat} {c : Bd} (h : (bds k l)[n + 1]? = some c) (hn : n + 1 < (bds k l).length) : c.fin = decide ((n : Int) + 2 = ((bds k l).length : Int)) := by
 have hl := zcX k l;by_cases hh : n + 1 < (bdK k l l.length).length
 ·have h2 := h;unfold bds at h2;rw [List.getElem?_append_left hh] at h2;rw [zjh _ c (List.mem_of_getElem? h2), decide_eq_false (by omega)]
 ·have h2 := h;unfold bds at h2;rw [List.getElem?_append_right (by omega), show n + 1 - (bdK k l l.length).length = 0 by omega] at h2;simp at h2; subst h2;rw [decide_eq_true (by omega)]
attribute [local irreducible] bdsT sgM
attribute [local irreducible] fsA addV addE subV subE lsE cnA cnB cnC cnE cnV cn1 divE divV sumF itR drL
set_option maxHeartbeats 2000000 in
theorem zeA (u : Tm) (l : List Ite) (s : Sgm) (hs : SgB l.length s) (hl : l.length <= 1000000) : Fn Tryz.prog 132 [tmA u, itsA l, smA s] (.tup [tmA (cnV u l s), iv (cnE u l s)]) := by
 have f0 := hs.f0;have ft := hs.ft;have tn := hs.tn;have lf := hs.lf;have rt := hs.rt;have hrl := zhx f0 ft tn;have h01 := zlI (itR l s);have hA0 : cnA l s = sumF ⟨0, 1⟩ (drL (itR l s)) := by unfold cnA; rfl
 have hA1 : cnA l s = sumF (fsA (itR l s) 0) ((drL (itR l s)).drop 0) := by rw [hA0, List.drop_zero, ← zfG (a := ⟨0, 1⟩) h01]
 refine Fn.go Tryz.func132 Tryz.ntmps132 (fun g w d => ?_);apply yb;iterate 2 refine yH ?_
 refine yJ ?_;refine ya ?_;apply yn;refine ya ?_;refine yJ ?_;refine yi ?_;apply Ex.nil;apply yd;apply yb;refine yp ?_;apply X.block
 refine y9 (ι := Nat) (fun (n : Nat) => [(1, itsA l), (3, .ptr 3 0 0 0), (5, .ptr 5 0 0 0), (6, .ptr 6 0 0 0), (8, .ptr 8 0 0 0), (9, iv (s.From + (n : Int)))]) (fun (n : Nat) => [(3, .box (tmE u) 60), (5, .box (smE s) 104), (6, .box [iv 0, iv 0] 60), (8, .box (tmE (fsA (itR l s) n)) 60)]) (fun (n : Nat) => n <= (itR l s).length /\ cnA l s = sumF (fsA (itR l s) n) ((drL (itR l s)).drop n)) (fun (n : Nat) => (itR l s).length - n) 0 (fun n hk => ?_) (hJ := by
  exact ⟨by omega, hA1⟩) (h0 := by
  exact zaw (by (repeat' (first | exact True.intro | (refine And.intro ⟨_, rfl, ?_⟩ ?_; (first | exact LeV.refl _ | exact LeV.any _ | exact LeB.refl _ | (refine LeV.eq ?_; simp; done) | (refine LeV.eq ?_; congr 1; omega) | (refine LeV.eq ?_; dsimp only; congr 1; omega) | (refine LeV.eq (congrArg (AV.int _) ?_); omega) | exact LeV.nils _ | exact LeB.row (by assumption) | (refine LeB.eq ?_; congr 1; omega) | (refine LeB.eq ?_; congr 1; simp only [cond_true, cond_false]; omega)))))) (by (repeat' (first | exact True.intro | (refine And.intro ⟨_, rfl, ?_⟩ ?_; (first | exact LeB.refl _ | exact LeB.row (by assumption) | exact LeB.eq (congrArg (fun z => Blk.box z 60) h01) | exact LeB.eq (congrArg (fun z => Blk.box z 60) hs1)))))))
 obtain ⟨hk1, hk2⟩ := hk;apply yd;apply yb;refine yX ?_;refine yk rfl ?_ ?_<;>intro hc1
 ·obtain ⟨x, hx⟩ : ∃ x, (itR l s)[n]? = some x := ⟨_, lgg (by omega)⟩;have hda := zlQ hx;have hx2 : l[(s.From + (n : Int)).toNat]? = some x := hda.2 f0;have hs3 := znB hx;obtain ⟨hs1, hs2, hs4⟩ := hs3;have hcs := ztZ (s := fsA (itR l s) n) hda.1;rw [← hk2] at hcs;have hs5 : fsA (itR l s) (n + 1) = addV (fsA (itR l s) n) x.Dur := (zfG hs1).symm;apply yf;apply yd;apply X.block;apply yd;refine zi [10,25,26,27,28,29,30,31,32,33,34] [0,0,0,6,14,30,63,127,255,255,0,1535,4095] mo ?_;iterate 6 refine yj ?_
  refine zj (zk (fsA (itR l s) n) x.Dur) ?_;iterate 3 refine yj ?_
  refine ChM.step rfl rfl rfl (zA (k := 10) zc60) rfl ?_;refine zbe 9 ⟨[(1, itsA l), (3, .ptr 3 0 0 0), (5, .ptr 5 0 0 0), (6, .ptr 6 0 0 0), (8, .ptr 8 0 0 0), (9, iv (s.From + (n : Int))), (10, .ptr 10 0 0 0), (11, iv (addE (fsA (itR l s) n) x.Dur))], [(3, .box (tmE u) 60), (5, .box (smE s) 104), (6, .box [iv 0, iv 0] 60), (8, .box (tmE (fsA (itR l s) n)) 60), (10, .box (tmE (addV (fsA (itR l s) n) x.Dur)) 60)]⟩ (fun Q hQ => ?_) (fun Q hQ => ?_) ?_
  ·refine yi ?_;refine ya ?_;exact ze yx hQ
  ·refine yi ?_;(iterate 2 refine ya ?_);exact ze yx hQ
  apply Ex.nil;apply yd;apply yb;refine yh ?_;refine yk rfl ?_ ?_<;>intro hc2
  ·rw [if_neg hc2] at hcs;have hZ := zoP (u := u) hcs hc2;have hE := hZ.1;have hV := hZ.2;apply yb;(iterate 2 refine ya ?_);refine yi ?_;refine ye ?_;refine X.ret ?_;refine yF ty60 ?_ ?_;all_goals (first | (rw [hE]; done) | (rw [hV]; rfl) | (rw [hE]; rfl) | (rw [hV]; done))
  apply yf;apply yc;refine ya ?_;refine yi ?_;apply Ex.nil;apply yc;refine yp ?_
  refine yL (n + 1) (hJ := by
   exact ⟨by omega, by rw [hs5, hcs, if_pos hc2]⟩) (hI := zaw (by (repeat' (first | exact True.intro | (refine And.intro ⟨_, rfl, ?_⟩ ?_; (first | exact LeV.refl _ | exact LeV.any _ | exact LeB.refl _ | (refine LeV.eq ?_; simp; done) | (refine LeV.eq ?_; congr 1; omega) | (refine LeV.eq ?_; dsimp only; congr 1; omega) | (refine LeV.eq (congrArg (AV.int _) ?_); omega) | exact LeV.nils _ | exact LeB.row (by assumption) | (refine LeB.eq ?_; congr 1; omega) | (refine LeB.eq ?_; congr 1; simp only [cond_true, cond_false]; omega)))))) (by (repeat' (first | exact True.intro | (refine And.intro ⟨_, rfl, ?_⟩ ?_; (first | exact LeB.refl _ | exact LeB.row (by assumption) | exact LeB.eq (congrArg (fun z => Blk.box z 60) h01) | exact LeB.eq (congrArg (fun z => Blk.box z 60) hs1)))))))
 ·have hn : n = (itR l s).length := by omega
  subst hn;have hA : cnA l s = ((fsA (itR l s) (itR l s).length), 0) := by rw [hk2, List.drop_of_length_le (by unfold drL; simp)]; unfold sumF; rfl
  have hBi := zre hA;apply X.exit;apply yd;apply yb;refine yp ?_;refine yk rfl ?_ ?_<;>intro hc3
  ·have hx := zjg (l := l) (i := s.Left) (by omega) lf;apply yd;refine zi [12,43,44,45,46,47,48,49,50,51,52,53] [0,0,0,4,14,30,62,127,255,511,511,0,3071,8191] mo ?_;(iterate 7 refine yj ?_);refine zj (zaW (fsA (itR l s) (itR l s).length) (itg l s.Left).After) ?_;(iterate 3 refine yj ?_);refine ChM.step rfl rfl rfl (zA (k := 12) zc60) rfl ?_;refine zbe 10 ⟨[(1, itsA l), (3, .ptr 3 0 0 0), (5, .ptr 5 0 0 0), (6, .ptr 6 0 0 0), (8, .ptr 8 0 0 0), (12, .ptr 12 0 0 0), (13, iv (lsE (fsA (itR l s) (itR l s).length) (itg l s.Left).After))], [(3, .box (tmE u) 60), (5, .box (smE s) 104), (6, .box [iv 0, iv 0] 60), (8, .box (tmE (fsA (itR l s) (itR l s).length)) 60), (12, .box (tmE (if lsE (fsA (itR l s) (itR l s).length) (itg l s.Left).After = 0 then subV (fsA (itR l s) (itR l s).length) (itg l s.Left).After else tmZ)) 60)]⟩ (fun Q hQ => ?_) (fun Q hQ => ?_) ?_
   ·refine yi ?_;refine ya ?_;exact ze yx hQ
   ·refine yi ?_;(iterate 2 refine ya ?_);exact ze yx hQ
   apply Ex.nil;apply yd;apply yb;refine yh ?_;refine yk rfl ?_ ?_<;>intro hc4
   ·rw [znO (by omega) hc4] at hBi;have hZ := znP (u := u) (zoQ hBi hc4) hc4;have hE := hZ.1;have hV := hZ.2;apply yb;(iterate 2 refine ya ?_);refine yi ?_;refine ye ?_;refine X.ret ?_;refine yF ty60 ?_ ?_;all_goals (first | (rw [hE]; done) | (rw [hV]; rfl) | (rw [hE]; rfl) | (rw [hV]; done))
   rw [znN (by omega) hc4] at hBi;have hCi := znL hBi;apply yf;apply yc;refine ya ?_;refine yi ?_;apply Ex.nil;apply yd;apply yb;refine yp ?_;refine yk rfl ?_ ?_<;>intro hc5
   ·have hx := zjg (l := l) (i := s.Right) (by omega) rt;apply yd;refine zi [14,62,63,64,65,66,67,68,69,70,71,72] [0,0,0,4,14,30,62,127,255,511,511,0,3071,8191] mo ?_;(iterate 7 refine yj ?_);refine zj (zaW (if lsE (fsA (itR l s) (itR l s).length) (itg l s.Left).After = 0 then subV (fsA (itR l s) (itR l s).length) (itg l s.Left).After else tmZ) (itg l s.Right).Before) ?_;(iterate 3 refine yj ?_);refine ChM.step rfl rfl rfl (zA (k := 14) zc60) rfl ?_;refine zbe 10 ⟨[(1, itsA l), (3, .ptr 3 0 0 0), (5, .ptr 5 0 0 0), (6, .ptr 6 0 0 0), (8, .ptr 8 0 0 0), (14, .ptr 14 0 0 0), (15, iv (lsE (if lsE (fsA (itR l s) (itR l s).length) (itg l s.Left).After = 0 then subV (fsA (itR l s) (itR l s).length) (itg l s.Left).After else tmZ) (itg l s.Right).Before))], [(3, .box (tmE u) 60), (5, .box (smE s) 104), (6, .box [iv 0, iv 0] 60), (8, .box (tmE (if lsE (fsA (itR l s) (itR l s).length) (itg l s.Left).After = 0 then subV (fsA (itR l s) (itR l s).length) (itg l s.Left).After else tmZ)) 60), (14, .box (tmE (if lsE (if lsE (fsA (itR l s) (itR l s).length) (itg l s.Left).After = 0 then subV (fsA (itR l s) (itR l s).length) (itg l s.Left).After else tmZ) (itg l s.Right).Before = 0 then subV (if lsE (fsA (itR l s) (itR l s).length) (itg l s.Left).After = 0 then subV (fsA (itR l s) (itR l s).length) (itg l s.Left).After else tmZ) (itg l s.Right).Before else tmZ)) 60)]⟩ (fun Q hQ => ?_) (fun Q hQ => ?_) ?_
    ·refine yi ?_;refine ya ?_;exact ze yx hQ
    ·refine yi ?_;(iterate 2 refine ya ?_);exact ze yx hQ
    apply Ex.nil;apply yd;apply yb;refine yh ?_;refine yk rfl ?_ ?_<;>intro hc6
    ·rw [znO (by omega) hc6] at hCi;have hZ := znP (u := u) hCi hc6;have hE := hZ.1;have hV := hZ.2;apply yb;(iterate 2 refine ya ?_);refine yi ?_;refine ye ?_;refine X.ret ?_;refine yF ty60 ?_ ?_;all_goals (first | (rw [hE]; done) | (rw [hV]; rfl) | (rw [hE]; rfl) | (rw [hV]; done))
    rw [znN (by omega) hc6] at hCi;have hZ := zlS (u := u) hCi;have hE := hZ.1;have hV := hZ.2;apply yf;apply yc;refine ya ?_;refine yi ?_;apply yn;(iterate 2 refine ya ?_);refine yr (zaq (if lsE (if lsE (fsA (itR l s) (itR l s).length) (itg l s.Left).After = 0 then subV (fsA (itR l s) (itR l s).length) (itg l s.Left).After else tmZ) (itg l s.Right).Before = 0 then subV (if lsE (fsA (itR l s) (itR l s).length) (itg l s.Left).After = 0 then subV (fsA (itR l s) (itR l s).length) (itg l s.Left).After else tmZ) (itg l s.Right).Before else tmZ) u) ?_;(iterate 2 refine ya ?_);refine yi ?_;refine ye ?_;refine X.ret ?_;refine yF ty60 ?_ ?_;all_goals (first | (rw [hE]; done) | (rw [hV]; rfl) | (rw [hE]; rfl) | (rw [hV]; done))
   ·rw [znM (by omega)] at hCi;have hZ := zlS (u := u) hCi;have hE := hZ.1;have hV := hZ.2;apply yf;apply yb;(iterate 2 refine ya ?_);refine yr (zaq (if lsE (fsA (itR l s) (itR l s).length) (itg l s.Left).After = 0 then subV (fsA (itR l s) (itR l s).length) (itg l s.Left).After else tmZ) u) ?_;(iterate 2 refine ya ?_);refine yi ?_;refine ye ?_;refine X.ret ?_;refine yF ty60 ?_ ?_;all_goals (first | (rw [hE]; done) | (rw [hV]; rfl) | (rw [hE]; rfl) | (rw [hV]; done))
  ·rw [znM (by omega)] at hBi;have hCi := znL hBi;apply yf;apply yd;apply yb;refine yp ?_;refine yk rfl ?_ ?_<;>intro hc7
   ·have hx := zjg (l := l) (i := s.Right) (by omega) rt;apply yd;refine zi [14,62,63,64,65,66,67,68,69,70,71,72] [0,0,0,4,14,30,62,127,255,511,511,0,3071,8191] mo ?_;(iterate 7 refine yj ?_);refine zj (zaW (fsA (itR l s) (itR l s).length) (itg l s.Right).Before) ?_;(iterate 3 refine yj ?_);refine ChM.step rfl rfl rfl (zA (k := 14) zc60) rfl ?_;refine zbe 10 ⟨[(1, itsA l), (3, .ptr 3 0 0 0), (5, .ptr 5 0 0 0), (6, .ptr 6 0 0 0), (8, .ptr 8 0 0 0), (14, .ptr 14 0 0 0), (15, iv (lsE (fsA (itR l s) (itR l s).length) (itg l s.Right).Before))], [(3, .box (tmE u) 60), (5, .box (smE s) 104), (6, .box [iv 0, iv 0] 60), (8, .box (tmE (fsA (itR l s) (itR l s).length)) 60), (14, .box (tmE (if lsE (fsA (itR l s) (itR l s).length) (itg l s.Right).Before = 0 then subV (fsA (itR l s) (itR l s).length) (itg l s.Right).Before else tmZ)) 60)]⟩ (fun Q hQ => ?_) (fun Q hQ => ?_) ?_
    ·refine yi ?_;refine ya ?_;exact ze yx hQ
    ·refine yi ?_;(iterate 2 refine ya ?_);exact ze yx hQ
    apply Ex.nil;apply yd;apply yb;refine yh ?_;refine yk rfl ?_ ?_<;>intro hc8
    ·rw [znO (by omega) hc8] at hCi;have hZ := znP (u := u) hCi hc8;have hE := hZ.1;have hV := hZ.2;apply yb;(iterate 2 refine ya ?_);refine yi ?_;refine ye ?_;refine X.ret ?_;refine yF ty60 ?_ ?_;all_goals (first | (rw [hE]; done) | (rw [hV]; rfl) | (rw [hE]; rfl) | (rw [hV]; done))
    rw [znN (by omega) hc8] at hCi;have hZ := zlS (u := u) hCi;have hE := hZ.1;have hV := hZ.2;apply yf;apply yc;refine ya ?_;refine yi ?_;apply yn;(iterate 2 refine ya ?_);refine yr (zaq (if lsE (fsA (itR l s) (itR l s).length) (itg l s.Right).Before = 0 then subV (fsA (itR l s) (itR l s).length) (itg l s.Right).Before else tmZ) u) ?_;(iterate 2 refine ya ?_);refine yi ?_;refine ye ?_;refine X.ret ?_;refine yF ty60 ?_ ?_;all_goals (first | (rw [hE]; done) | (rw [hV]; rfl) | (rw [hE]; rfl) | (rw [hV]; done))
   ·rw [znM (by omega)] at hCi;have hZ := zlS (u := u) hCi;have hE := hZ.1;have hV := hZ.2;apply yf;apply yb;(iterate 2 refine ya ?_);refine yr (zaq (fsA (itR l s) (itR l s).length) u) ?_;(iterate 2 refine ya ?_);refine yi ?_;refine ye ?_;refine X.ret ?_;refine yF ty60 ?_ ?_;all_goals (first | (rw [hE]; done) | (rw [hV]; rfl) | (rw [hE]; rfl) | (rw [hV]; done))
set_option maxHeartbeats 4000000 in
theorem zaf (m : Mn) (k : Int) (l : List Ite) (h0 : -9223372036854775808 <= k) (h1 : k <= 9223372036854775807) (hl : l.length <= 1000000) : Fn Tryz.prog 66 [mnA m, iv k, itsA l] (.tup [smsA (segV m k l), iv (segE m k l)]) := by
 have hok := ziW k l;have hbl := zsL k l;have hsl := zdJ l (bds k l);have hbt := znH k l;refine Fn.go Tryz.func66 Tryz.ntmps66 (fun g w d => ?_);apply yb;refine yH ?_;iterate 2 refine ya ?_
 apply yn;iterate 2 refine ya ?_
 refine yr (zcd m k) ?_;iterate 3 refine ya ?_
 refine yJ ?_;refine yi ?_;refine ye ?_;apply yd;apply yb;refine yh ?_;refine yk rfl ?_ ?_<;>intro hc1
 ·have hE : segE m k l = unE m k := by unfold segE; rw [if_neg hc1]
  have hV : [] = segV m k l := by unfold segV; rw [if_neg (by rw [hE]; exact hc1)]
  apply yb;refine yp ?_;refine X.ret ?_;refine yu (yl (ts := [(6, smsA []), (7, iv (unE m k))]) (hs := [])) ?_;refine yz ?_ ?_;all_goals (first | (rw [← hV]; done) | (rw [hE]; done) | exact congrArg (fun z => smsA z) hV | (rw [← hV]; rfl) | (rw [hE]; rfl))
 have hU : unE m k = 0 := hc1;apply yf;apply yb;refine ya ?_;refine yr (zbM l (by omega)) ?_;refine yX ?_;apply yd;apply yb;refine yh ?_;refine yk rfl ?_ ?_<;>intro hc2
 ·have hE : segE m k l = ckIE l := by unfold segE; rw [if_pos hU, if_neg hc2]
  have hV : [] = segV m k l := by unfold segV; rw [if_neg (by rw [hE]; exact hc2)]
  apply yb;refine yp ?_;refine X.ret ?_;refine yu (yl (ts := [(6, smsA []), (7, iv (ckIE l))]) (hs := [])) ?_;refine yz ?_ ?_;all_goals (first | (rw [← hV]; done) | (rw [hE]; done) | exact congrArg (fun z => smsA z) hV | (rw [← hV]; rfl) | (rw [hE]; rfl))
 have hK : ckIE l = 0 := hc2;have hP := zb2 hK;have hcut : ∀ x ∈ l, 0 <= x.Cut := fun x hx => (zfW (hP x hx)).1.2.2.1
 have hEE : segE m k l = segX (unT m k) l (sgs0 l (bds k l)) := by unfold segE; rw [if_pos hU, if_pos hK]
 have hm0 := zsJ (unT m k) l (sgs0 l (bds k l));apply yf;apply yb;iterate 2 refine ya ?_
 refine yr (zd8 k l hl hcut) ?_;refine ya ?_;apply yn;refine ye ?_;iterate 2 apply yd
 refine y3 (yZ smE 104 7 11 200 rfl rfl) ?_;apply yc;refine ye ?_;apply X.block
 refine y9 (ι := Nat) (fun (n : Nat) => [(2, itsA l), (8, .ptr 8 0 0 0), (10, .sl brE (bdsT k l)), (11, .own 200), (12, iv (n : Int))]) (fun (n : Nat) => [(8, .box (tmE (unT m k)) 60), (200, .row smE (sgM (unT m k) l (sgs0 l (bds k l)) n) 104 7)]) (fun (n : Nat) => n <= (sgs0 l (bds k l)).length /\ segX (unT m k) l (sgs0 l (bds k l)) = segX (unT m k) l ((sgs0 l (bds k l)).drop n)) (fun (n : Nat) => (sgs0 l (bds k l)).length - n) 0 (fun n hk => ?_) (hJ := by
  exact ⟨by omega, rfl⟩) (h0 := by
  exact yx)
 obtain ⟨hk1, hk2⟩ := hk;apply yd;apply yb;refine y4 ?_;refine yk rfl ?_ ?_<;>intro hc3
 ·obtain ⟨b, hb⟩ : ∃ b, (bds k l)[n]? = some b := ⟨_, lgg (by omega)⟩;obtain ⟨c, hc⟩ : ∃ c, (bds k l)[n + 1]? = some c := ⟨_, lgg (by omega)⟩;have hs := zg1 l (bds k l) n b c hb hc;have hb2 : (bdsT k l)[(n : Int).toNat]? = some (bdT b) := by rw [zlT, Int.toNat_natCast, hb]; rfl
  have hc2 : (bdsT k l)[((n : Int) + 1).toNat]? = some (bdT c) := by rw [zlT, show ((n : Int) + 1).toNat = n + 1 by omega, hc]; rfl
  have hbi : b.item < l.length := zp2 hb;have hci : c.item < l.length := zp2 hc;have hsc : ⟨b.next, bdF c, hdI l b, hdI l c, decide ((n : Int) + 2 = ((bdsT k l).length : Int)), ⟨0, 0⟩⟩ = sg0 l b c := by unfold sg0; rw [zoT hc (n := n) (by omega), hbt]
  have hso := hok.all _ (List.mem_of_getElem? hs);have hsb : SgB l.length ⟨b.next, bdF c, hdI l b, hdI l c, decide ((n : Int) + 2 = ((bdsT k l).length : Int)), ⟨0, 0⟩⟩ := by rw [hsc]; exact hso.b
  have hml := zoR (unT m k) l (sgs0 l (bds k l)) n;have hst := zsK (u := unT m k) (l := l) hs;rw [← hsc] at hst;apply yf;apply yd;apply X.block;apply yd;refine zi [13,43,44,45,46,47,48,49,50,51,52,53,54,55,56,57,58,59,60,61,62,63,64,65,66,67,68,69,70,71,72] [0,0,3,7,15,0,0,64,224,480,992,0,0,0,12288,28672,63488,0,0,0,524288,1835008,3932160,8386560,0,16777216,0,67108864,251658240,536870911,0,2147483647] mo ?_;iterate 16 refine yj ?_
  refine zj (zce l b hbi) ?_;iterate 6 refine yj ?_
  refine zj (zce l c hci) ?_;iterate 6 refine yj ?_
  refine ChM.step rfl rfl rfl (zA (k := 13) zn2) rfl ?_;refine yR ?_;refine yi ?_;apply yn;iterate 3 refine ya ?_
  refine yr (zeA (unT m k) l ⟨b.next, bdF c, hdI l b, hdI l c, decide ((n : Int) + 2 = ((bdsT k l).length : Int)), ⟨0, 0⟩⟩ hsb hl) ?_;iterate 3 refine ya ?_
  refine yJ ?_;refine yi ?_;refine ye ?_;apply yd;apply yb;refine yh ?_;refine yk rfl ?_ ?_<;>intro hc4
  ·have hR := znA hc4;have hE : segE m k l = cnE (unT m k) l ⟨b.next, bdF c, hdI l b, hdI l c, decide ((n : Int) + 2 = ((bdsT k l).length : Int)), ⟨0, 0⟩⟩ := by rw [hEE, hk2, zcI hs, ← hsc, hR, if_neg hc4]
   have hV : [] = segV m k l := by unfold segV; rw [if_neg (by rw [hE]; exact hc4)]
   apply yb;refine yp ?_;refine X.ret ?_;refine yu (yl (ts := [(6, smsA []), (7, iv (cnE (unT m k) l ⟨b.next, bdF c, hdI l b, hdI l c, decide ((n : Int) + 2 = ((bdsT k l).length : Int)), ⟨0, 0⟩⟩))]) (hs := [])) ?_;refine yz ?_ ?_;all_goals (first | (rw [← hV]; done) | (rw [hE]; done) | exact congrArg (fun z => smsA z) hV | (rw [← hV]; rfl) | (rw [hE]; rfl))
  have hcE : cnE (unT m k) l ⟨b.next, bdF c, hdI l b, hdI l c, decide ((n : Int) + 2 = ((bdsT k l).length : Int)), ⟨0, 0⟩⟩ = 0 := hc4;apply yf;apply yd;apply yb;iterate 3 refine ya ?_
  refine ExF.at 3 ?_;refine yC ?_;iterate 3 refine ExF.gi ?_
  refine yA ?_;refine ye ?_;refine yk rfl ?_ ?_<;>intro hc5
  ·have hR : segR (unT m k) l ⟨b.next, bdF c, hdI l b, hdI l c, decide ((n : Int) + 2 = ((bdsT k l).length : Int)), ⟨0, 0⟩⟩ = 14 := by unfold segR; rw [if_pos hcE, if_pos ⟨decide_eq_false hc5.1, hc5.2⟩]
   have hE : segE m k l = 14 := by rw [hEE, hk2, zcI hs, ← hsc, hR, if_neg (by decide)]
   have hV : [] = segV m k l := by unfold segV; rw [if_neg (by rw [hE]; decide)]
   apply yb;refine yh ?_;refine X.ret ?_;refine yu (yl (ts := [(6, smsA []), (7, iv 14)]) (hs := [])) ?_;refine yz ?_ ?_;all_goals (first | (rw [← hV]; done) | (rw [hE]; done) | exact congrArg (fun z => smsA z) hV | (rw [← hV]; rfl) | (rw [hE]; rfl))
  have hR : segR (unT m k) l ⟨b.next, bdF c, hdI l b, hdI l c, decide ((n : Int) + 2 = ((bdsT k l).length : Int)), ⟨0, 0⟩⟩ = 0 := by unfold segR; rw [if_pos hcE, if_neg (by intro hh; rcases hc5 with h | h; (exact of_decide_eq_false hh.1 h); exact hh.2 h)]
  apply yf;apply yb;iterate 2 refine ya ?_
  refine yi ?_;apply Ex.nil;apply yc;iterate 2 refine ya ?_
  refine yO smE [segW (unT m k) l ⟨b.next, bdF c, hdI l b, hdI l c, decide ((n : Int) + 2 = ((bdsT k l).length : Int)), ⟨0, 0⟩⟩] ?_;refine yi ?_;refine ye ?_;apply yc;refine yp ?_
  refine yL (n + 1) (hJ := by
   exact ⟨by omega, by rw [hk2, zcI hs, ← hsc, if_pos hR]⟩) (hI := yx)
 ·have hn : n = (sgs0 l (bds k l)).length := by omega
  subst hn;have hE : segE m k l = 0 := by rw [hEE, hk2, List.drop_length]; rfl
  have hV : sgM (unT m k) l (sgs0 l (bds k l)) (sgs0 l (bds k l)).length = segV m k l := by unfold segV; rw [if_pos hE, zoS]
  apply X.exit;apply yd;refine y3 (Imp.freeze (k := 200) rfl) ?_;apply yc;refine yp ?_;refine X.ret ?_;skip;refine yz ?_ ?_;all_goals (first | (rw [← hV]; done) | (rw [hE]; done) | exact congrArg (fun z => smsA z) hV | (rw [← hV]; rfl) | (rw [hE]; rfl))
end Go.Rse
