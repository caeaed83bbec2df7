/-
  Walks: the positions of pairs.
-/
import Derived.Test.YtbilklnipfabpaaGreatDoorPJFull1
import Derived.Test.YtbilklnipfabpaaGreatDoorPLogC
set_option linter.unusedSimpArgs false
set_option linter.unusedVariables false
namespace Go.Rse
open Go Go.Proofs
attribute [local irreducible] Pur yx yz Ex X Fn Imp LeV LeB FnO It yC
def zai (m : Mn) (l : List Sg) (i : Int) : Bool := decide (m.Pro = 2) && zaM l i
def zu (m : Mn) (l : List Sg) : Nat -> List Int
 | 0 => []
 | k + 1 => if zai m l (k : Int) = true then zu m l k ++ [(k : Int)] else zu m l k
def zR (m : Mn) (l : List Sg) : List Int := zu m l l.length
def zeW (m : Mn) (l : List Sg) : List (List AV) := (zR m l).map fun i => [iv i]
theorem zeC {m : Mn} {l : List Sg} {k : Nat} (h : zai m l (k : Int) = true) : zu m l k ++ [(k : Int)] = zu m l (k + 1) := by
 conv => rhs; unfold zu
 rw [if_pos h]
theorem zfT {m : Mn} {l : List Sg} {k : Nat} (h : zai m l (k : Int) = false) : zu m l k = zu m l (k + 1) := by
 conv => rhs; unfold zu
 rw [if_neg (by simp [h])]
theorem zgY (m : Mn) (l : List Sg) : ∀ k, (zu m l k).length <= k
 | 0 => Nat.le_refl _
 | k + 1 => by
  unfold zu;have := zgY m l k;split
  ·simp; omega
  ·omega
theorem zgZ {m : Mn} {l : List Sg} (k : Nat) : ∀ d, ∃ r, zu m l (k + d) = zu m l k ++ r
 | 0 => ⟨[], by simp⟩
 | d + 1 => by
  obtain ⟨r, hr⟩ := zgZ (m := m) (l := l) k d;show ∃ r, zu m l ((k + d) + 1) = _;by_cases h : zai m l ((k + d : Nat) : Int) = true
  ·rw [← zeC h, hr]; exact ⟨r ++ [((k + d : Nat) : Int)], by simp⟩
  ·rw [← zfT (by simpa using h)]; exact ⟨r, hr⟩
theorem zld {m : Mn} {l : List Sg} {k : Nat} (hk : k < l.length) (h : zai m l (k : Int) = true) : (zeW m l)[(zu m l k).length]? = some [iv (k : Int)] := by
 obtain ⟨r, hr⟩ := zgZ (m := m) (l := l) (k + 1) (l.length - (k + 1));rw [show k + 1 + (l.length - (k + 1)) = l.length by omega, ← zeC h] at hr;unfold zeW zR;rw [hr]; simp
theorem zeD {m : Mn} {l : List Sg} {j : Nat} {zs : List AV} (h : (zeW m l)[j]? = some zs) : ∃ i, (zR m l)[j]? = some i /\ zs = [iv i] := by
 rw [zeW, List.getElem?_map] at h;cases hk : (zR m l)[j]? with
 | none => simp [hk] at h
 | some k => simp [hk] at h; exact ⟨k, rfl, h.symm⟩
attribute [local irreducible] zaM zu zR
theorem zfg (m : Mn) (l : List Sg) (hl : l.length <= 4000000000) : It Tryz.prog 192 [.ept (fun _ : Unit => [.sl sgE l]) () 0, .ept (fun _ : Unit => mnE m) () 0] (zeW m l) := by
 have hp0 : (zu m l 0).length = 0 := by unfold zu; rfl
 refine It.intro (ts := fun lY => [(0, .yv lY), (1, .ept (fun _ : Unit => [.sl sgE l]) () 0), (2, .ept (fun _ : Unit => mnE m) () 0)]) (n := 25) (by kernel_rfl) Tryz.func192 rfl Tryz.ntmps192 rfl (fun _ => rfl) (by simp) (fun g w d ds Y lY hY => ?_);apply yb;refine yn ?_;apply X.block;refine zh (ι := Nat) (fun (k : Nat) => [(0, .yv lY), (1, .ept (fun _ : Unit => [.sl sgE l]) () 0), (2, .ept (fun _ : Unit => mnE m) () 0), (6, iv l.length), (7, iv (k : Int))]) (fun (k : Nat) => [(1000000, .yld (zu m l k).length true)]) (fun (k : Nat) => k <= l.length) (fun (k : Nat) => l.length - k) 0 (fun k hk => ?_);apply yb;refine ye ?_;apply yd;refine yk rfl ?_ ?_<;>intro hc1
 ·apply yf;apply yd;apply X.block;apply yb;refine yh ?_;apply yd;have hcs : (decide (m.Pro = 2) = false) \/ (decide (m.Pro = 2) = true /\ zaM l (k : Int) = false) \/ (decide (m.Pro = 2) = true /\ zaM l (k : Int) = true) := by cases decide (m.Pro = 2) <;> cases zaM l (k : Int) <;> simp
  rcases hcs with hp | ⟨hp, hq⟩ | ⟨hp, hq⟩
  ·have hg3 : (decide (m.Pro = 2) == true) = false := by rw [hp]; rfl
   have hn : zai m l (k : Int) = false := by unfold zai; rw [hp]; rfl
   have hst := zfT hn;have hst2 := congrArg List.length hst.symm;apply yc;(iterate 4 refine ya ?_);(iterate 3 refine zaJ ?_);(iterate 2 refine ya ?_);(iterate 4 refine zaJ ?_);refine ye ?_;refine yk rfl ?_ ?_<;>intro hc2
   ·exact absurd hc2 (by decide)
   apply yf;apply yc;refine yh ?_;refine yP (k + 1)
  ·have hg3 : (decide (m.Pro = 2) == true) = true := by rw [hp]; rfl
   have hg8 : (zaM l (k : Int) == true) = false := by rw [hq]; rfl
   have hn : zai m l (k : Int) = false := by unfold zai; rw [hp, hq]; rfl
   have hst := zfT hn;have hst2 := congrArg List.length hst.symm;apply yc;(iterate 4 refine ya ?_);iterate 2 refine zx ?_
   (refine znj rfl rfl ?_ (zar rfl rfl rfl (LeL.refl _) (zd6 l hl (k : Int) (by omega) (by omega))) rfl rfl ?_; iterate 1 (· first | exact hg3 | assumption | rfl | (simp_all; done) | omega))
   (iterate 2 refine ya ?_);(iterate 4 refine zaJ ?_);refine ye ?_;refine yk rfl ?_ ?_<;>intro hc3
   ·exact absurd hc3 (by decide)
   apply yf;apply yc;refine yh ?_;refine yP (k + 1)
  ·have hg3 : (decide (m.Pro = 2) == true) = true := by rw [hp]; rfl
   have hg8 : (zaM l (k : Int) == true) = true := by rw [hq]; rfl
   have hn : zai m l (k : Int) = true := by unfold zai; rw [hp, hq]; rfl
   have hst := zeC hn;have hst2 := congrArg List.length hst;have hq1 := zld (by omega) hn;rw [List.length_append] at hst2;apply yc;(iterate 4 refine ya ?_);iterate 2 refine zx ?_
   (refine znj rfl rfl ?_ (zar rfl rfl rfl (LeL.refl _) (zd6 l hl (k : Int) (by omega) (by omega))) rfl rfl ?_; iterate 1 (· first | exact hg3 | assumption | rfl | (simp_all; done) | omega))
   (iterate 2 refine ya ?_);(iterate 2 refine zx ?_);refine zbk hY rfl rfl rfl (fun _ => ⟨_, _, rfl, rfl, rfl, LeL.refl _, rfl, rfl, hq1, fun b => ?_⟩) (fun h => absurd (h.symm.trans hg8) (by decide));refine zx ?_;refine ye ?_;refine yk rfl ?_ ?_<;>intro hc4
   ·subst hc4;refine X.ret ?_;refine ⟨.inr rfl, _, false, rfl, fun hb => by simp at hb⟩
   subst hc4;have hst3 : (zu m l (k + 1)).length = (zu m l k).length + 1 := hst2.symm;clear hst2;apply yf;apply yc;refine yh ?_;refine yP (k + 1)
 ·have hkl : k = l.length := by omega
  subst hkl;apply X.exit;refine ⟨.inl rfl, _, true, rfl, fun _ => by unfold zeW zR; rw [List.length_map]⟩
theorem zgM (m : Mn) (l : List Sg) : Fn Tryz.prog 173 [mnA m, sgsA l] (.fn 192 [.ept (fun _ : Unit => [.sl sgE l]) () 0, .ept (fun _ : Unit => mnE m) () 0]) := by
 refine Fn.go Tryz.func173 Tryz.ntmps173 (fun g w d => ?_);apply yb;refine yF ?_;refine zcu ?_;refine ya ?_;apply yj;refine yh ?_;refine X.ret ?_;refine RetQ.imp ((yU (k := 2) rfl rfl).trans (yU (k := 3) rfl rfl)) ?_;refine ym ?_;all_goals (first | rfl | (simp_all; done))
end Go.Rse
namespace Go.Rse
open Go Go.Proofs
attribute [local irreducible] Pur yx yz Ex X Fn Imp LeV LeB FnO It yC
theorem zg0 (m : Mn) (l : List Sg) : (zR m l).length <= l.length := by unfold zR; exact zgY m l _
theorem zle {α : Type} {a : List α} {j : Nat} {x : α} (h : a[j]? = some x) : a.take j ++ [x] = a.take (j + 1) := by
 rw [List.take_add_one, h]; rfl
attribute [local irreducible] zaM zu zR zai ckD
theorem zgN (m : Mn) (z : List Sg) (hl : z.length <= 1000) : FnO Tryz.prog 129 [mnA m, sgsA z] [] [] (.tup [.own 39, iv (ckD m z)]) [(39, .row intE (if ckD m z = 0 then zR m z else []) 3 1)] := by
 refine FnO.intro (ts := [(0, mnA m), (1, sgsA z)]) (rv := [.tmp 4, .tmp 5]) (n := 24) (cs := []) (by kernel_rfl) Tryz.func129 rfl Tryz.ntmps129 rfl rfl (by simp) rfl rfl rfl rfl (fun g w d vh => ?_);apply yb;refine yF ?_;refine yh ?_;apply yd;apply yb;iterate 2 refine ya ?_
 refine yq (za2 m z hl) ?_;refine ya ?_;apply yj;refine yh ?_;refine yk rfl ?_ ?_<;>intro hc1
 ·have hE : [] = (if ckD m z = 0 then zR m z else []) := by rw [if_neg hc1]
  apply yb;refine yn ?_;refine X.ret ?_;refine zkW.imp (y5 intE 3 1 4 39 rfl rfl) ?_;refine zkW.mk (ts := [(4, .own 39), (5, iv (ckD m z))]) (.inr rfl) (yi) (.many (by decide) (.cons (.tmp rfl (LeV.eq rfl)) (.cons (.tmp rfl (LeV.eq rfl)) .nil)))
 have hpl := zg0 m z;apply yf;apply yb;refine yH ?_;apply Ex.nil;iterate 2 apply yd
 refine X.imp (zaU intE 3 1 7 39 22 rfl rfl) ?_;apply yc;iterate 2 refine ya ?_
 refine yq (zgM m z) ?_;apply Ex.nil;apply X.block;have ht0 : [] = (zR m z).take 0 := by simp
 have htl : (zR m z).take (zeW m z).length = (if ckD m z = 0 then zR m z else []) := by
  rw [if_pos hc1]; unfold zeW; rw [List.length_map, List.take_length]
 refine X.range (sl := [7]) (fun j => ([.ptr 7 0 0 0], [(1000001, .hold vh []), (7, .box [.own 39] 22), (39, .row intE ((zR m z).take j) 3 1)])) (fun j => True) 900001 900002 rfl rfl (by decide) (fun j zs hj => by obtain ⟨i, _, rfl⟩ := zeD hj; rfl) (zfg m z (by omega)) trivial rfl rfl (by decide) (Nat.zero_le _) (by simp) (fun j zs hj => by obtain ⟨i, _, rfl⟩ := zeD hj; rfl) (fun _ => rfl) rfl rfl (fun l o us => yi) (trivial) (fun j zs hj hJ l ready busy rb vs g w hb hyB => ?_) (fun hJ => ?_)
 ·obtain ⟨i, hi, rfl⟩ := zeD hj;have hst := zle hi;have hlt : ((zR m z).take j).length <= 1000 := by simp; omega
  apply yc;refine ye ?_;refine ⟨rfl, rfl, ?_⟩;apply X.block;apply yc;iterate 2 refine ya ?_
  refine y2 intE [_] ?_;iterate 2 refine Ex.mo ?_
  apply Ex.nil;refine ⟨[.ptr 7 0 0 0], [(1000001, .hold vh []), (7, .box [.own 39] 22), (39, .row intE ((zR m z).take (j + 1)) 3 1)], yi, rfl, trivial⟩
 apply yb;refine yn ?_;refine X.ret ?_;refine zkW.mk (ts := [(4, .own 39), (5, iv (ckD m z))]) (.inr rfl) (yi) (.many (by decide) (.cons (.tmp rfl (LeV.eq rfl)) (.cons (.tmp rfl (LeV.eq rfl)) .nil)))
end Go.Rse
namespace Go.Rse
open Go Go.Proofs
attribute [local irreducible] Pur yx yz Ex X Fn Imp LeV LeB FnO It yC
attribute [local irreducible] zaM zu zR zai ckD
def prL (m : Mn) (l : List Sg) : List Int := if ckD m l = 0 then zR m l else []
theorem zhG (m : Mn) (l : List Sg) : (prL m l).length <= l.length := by
 unfold prL; split
 ·exact zg0 m l
 ·simp
def colN (m : Mn) (l : List Sg) : Int := if ckD m l = 0 then (if 6 < (prL m l).length then 0 else 2 ^ (prL m l).length) else 0
def colE (m : Mn) (l : List Sg) : Int := if ckD m l = 0 then (if 6 < (prL m l).length then 15 else 0) else ckD m l
theorem zjp {m : Mn} {l : List Sg} (h : ¬ckD m l = 0) : 0 = colN m l := by unfold colN; rw [if_neg h]
theorem zjq {m : Mn} {l : List Sg} (h : ¬ckD m l = 0) : ckD m l = colE m l := by unfold colE; rw [if_neg h]
theorem zjr {m : Mn} {l : List Sg} (h : ckD m l = 0) (h6 : 6 < (prL m l).length) : 0 = colN m l := by unfold colN; rw [if_pos h, if_pos h6]
theorem zjs {m : Mn} {l : List Sg} (h : ckD m l = 0) (h6 : 6 < (prL m l).length) : 15 = colE m l := by unfold colE; rw [if_pos h, if_pos h6]
theorem zjt {m : Mn} {l : List Sg} (h : ckD m l = 0) {k : Nat} (hk : k = (prL m l).length) (h6 : k <= 6) : 2 ^ k = colN m l := by unfold colN; rw [if_pos h, if_neg (by omega), hk]
theorem zju {m : Mn} {l : List Sg} (h : ckD m l = 0) {k : Nat} (hk : k = (prL m l).length) (h6 : k <= 6) : 0 = colE m l := by unfold colE; rw [if_pos h, if_neg (by omega)]
theorem zbX {k : Nat} (h : k <= 6) : 1 <= (2 : Int) ^ k /\ (2 : Int) ^ k <= 64 := by
 rcases k with _ | _ | _ | _ | _ | _ | _ | k <;> first | omega | (constructor <;> decide)
attribute [local irreducible] prL
end Go.Rse
namespace Go.Rse
open Go Go.Proofs
attribute [local irreducible] Pur yx yz Ex X Fn Imp LeV LeB FnO It yC
attribute [local irreducible] zaM zu zR zai ckD
theorem zcD (m : Mn) (l : List Sg) (hl : l.length <= 1000) : FnO Tryz.prog 129 [mnA m, sgsA l] [] [] (.tup [.own 39, iv (ckD m l)]) [(39, .row intE (prL m l) 3 1)] := zgN m l hl
theorem zqu {k : Nat} (h : k <= 6) : IntKind.i64.wrap (1 * 2 ^ (k : Int).toNat) = 1 * 2 ^ (k : Int).toNat := by
 rcases k with _ | _ | _ | _ | _ | _ | _ | k <;> first | omega | rfl
theorem zjv (k : Nat) : (1 : Int) * 2 ^ (k : Int).toNat = 2 ^ k := by rw [Int.one_mul]; rfl
attribute [local irreducible] prL
theorem zdt (m : Mn) (l : List Sg) (hl : l.length <= 1000) : Fn Tryz.prog 158 [mnA m, sgsA l] (.tup [iv (colN m l), iv (colE m l)]) := by
 refine Fn.go Tryz.func158 Tryz.ntmps158 (fun g w d => ?_);apply yb;refine yF ?_;iterate 2 refine ya ?_
 apply yj;iterate 2 refine ya ?_
 refine z6 [(39, 39)] (zcD m l hl) ?_;refine ze ?_;apply yd;apply yb;refine yh ?_;refine yk rfl ?_ ?_<;>intro hc1
 ·apply yb;refine yn ?_;refine X.ret ?_;refine RetQ.imp (yi (ts := [(4, iv 0), (5, iv (ckD m l))]) (hs := [])) ?_;refine yu ?_ ?_;all_goals (first | exact congrArg (AV.int .i64) (zjp hc1) | exact congrArg (AV.int .i64) (zjq hc1) | exact congrArg (AV.int .i64) (zjr hc1 (by omega)) | exact congrArg (AV.int .i64) (zjs hc1 (by omega)) | exact congrArg (AV.int .i64) ((zjv _).trans (zjt hc1 rfl (by omega))) | exact congrArg (AV.int .i64) (zju hc1 rfl (by omega)))
 apply yf;apply yd;apply yb;refine yn ?_;refine yk rfl ?_ ?_<;>intro hc2
 ·apply yb;refine yh ?_;refine X.ret ?_;refine RetQ.imp (yi (ts := [(4, iv 0), (5, iv 15)]) (hs := [])) ?_;refine yu ?_ ?_;all_goals (first | exact congrArg (AV.int .i64) (zjp hc1) | exact congrArg (AV.int .i64) (zjq hc1) | exact congrArg (AV.int .i64) (zjr hc1 (by omega)) | exact congrArg (AV.int .i64) (zjs hc1 (by omega)) | exact congrArg (AV.int .i64) ((zjv _).trans (zjt hc1 rfl (by omega))) | exact congrArg (AV.int .i64) (zju hc1 rfl (by omega)))
 apply yf;apply yb;iterate 2 refine ya ?_
 refine ya (hs := ztj rfl rfl (by omega) (by omega) (zqu (by omega))) ?_;refine yh ?_;refine X.ret ?_;refine RetQ.imp (yi (ts := [(4, iv (1 * 2 ^ ((prL m l).length : Int).toNat)), (5, iv 0)]) (hs := [])) ?_;refine yu ?_ ?_;all_goals (first | exact congrArg (AV.int .i64) (zjp hc1) | exact congrArg (AV.int .i64) (zjq hc1) | exact congrArg (AV.int .i64) (zjr hc1 (by omega)) | exact congrArg (AV.int .i64) (zjs hc1 (by omega)) | exact congrArg (AV.int .i64) ((zjv _).trans (zjt hc1 rfl (by omega))) | exact congrArg (AV.int .i64) (zju hc1 rfl (by omega)))
end Go.Rse
namespace Go.Rse
open Go Go.Proofs
attribute [local irreducible] Pur yx yz Ex X Fn Imp LeV LeB FnO It yC
attribute [local irreducible] zaM zu zR zai ckD
theorem zlV {m : Mn} {l : List Sg} (h : colE m l = 0) : ckD m l = 0 /\ (prL m l).length <= 6 /\ colN m l = 2 ^ (prL m l).length := by
 unfold colE at h;split at h
 ·next h1 =>
  split at h
  ·omega
  ·next h2 => exact ⟨h1, by omega, by unfold colN; rw [if_pos h1, if_neg h2]⟩
 ·next h1 => exact absurd h h1
def bitv (K j : Nat) : Int := if j < K then 2 ^ (K - 1 - j) else 0
def dig (n : Int) (K j : Nat) : Int := if n / 2 ^ (K - 1 - j) % 2 = 0 then 1 else 2
def digP (n : Int) (K j : Nat) : List Int := (List.range j).map (dig n K)
theorem zlf (n : Int) (K j : Nat) : digP n K j ++ [dig n K j] = digP n K (j + 1) := by unfold digP; rw [List.range_succ, List.map_append]; rfl
theorem ziA (n : Int) (K j : Nat) : (digP n K j).length = j := by unfold digP; simp
theorem ziB : ∀ K : Fin 7, ∀ j : Fin 7, bitv K.val j.val / 2 = bitv K.val (j.val + 1) /\ (j.val < K.val -> 1 <= bitv K.val j.val /\ bitv K.val j.val <= 64) := by decide
theorem zqv : ∀ K : Fin 7, (2 : Int) ^ K.val / 2 = bitv K.val 0 := by decide
theorem zqw {K j : Nat} (hK : K <= 6) (hj : j <= K) : bitv K j / 2 = bitv K (j + 1) := (ziB ⟨K, by omega⟩ ⟨j, by omega⟩).1
theorem zqx {K j : Nat} (hK : K <= 6) (hj : j < K) : 1 <= bitv K j /\ bitv K j <= 64 := (ziB ⟨K, by omega⟩ ⟨j, by omega⟩).2 hj
theorem zqy {K j : Nat} (hj : ¬ j < K) : bitv K j = 0 := by unfold bitv; rw [if_neg hj]
theorem zqz {K j : Nat} (hj : j < K) : bitv K j = 2 ^ (K - 1 - j) := by unfold bitv; rw [if_pos hj]
theorem zn3 {n : Int} {K j : Nat} (h0 : 0 <= n) (h1 : n < 64) (hK : K <= 6) (hj : j < K) : dig n K j = if andI n (bitv K j) = 0 then 1 else 2 := by
 unfold dig; rw [zqz hj];have h := zly h0 h1 (k := K - 1 - j) (by omega);by_cases e : andI n (2 ^ (K - 1 - j)) = 0
 ·rw [if_pos e, if_pos (h.1 e)]
 ·rw [if_neg e, if_neg (fun x => e (h.2 x))]
def cfE (m : Mn) (l : List Sg) (n : Int) : Int := if colE m l = 0 then (if n < 0 \/ colN m l <= n then 2 else 0) else colE m l
def cfV (m : Mn) (l : List Sg) (n : Int) : List Int := if colE m l = 0 then (if n < 0 \/ colN m l <= n then [] else digP n (prL m l).length (prL m l).length) else []
theorem zlW {m : Mn} {l : List Sg} {n : Int} (h : ¬ colE m l = 0) : colE m l = cfE m l n := by unfold cfE; rw [if_neg h]
theorem zlX {m : Mn} {l : List Sg} {n : Int} (h : ¬ colE m l = 0) : [] = cfV m l n := by unfold cfV; rw [if_neg h]
theorem zlY {m : Mn} {l : List Sg} {n : Int} (h : colE m l = 0) (h2 : n < 0 \/ colN m l <= n) : 2 = cfE m l n := by unfold cfE; rw [if_pos h, if_pos h2]
theorem zlZ {m : Mn} {l : List Sg} {n : Int} (h : colE m l = 0) (h2 : n < 0 \/ colN m l <= n) : [] = cfV m l n := by unfold cfV; rw [if_pos h, if_pos h2]
theorem zl0 {m : Mn} {l : List Sg} {n : Int} (h : colE m l = 0) (h2 : ¬ (n < 0 \/ colN m l <= n)) : 0 = cfE m l n := by unfold cfE; rw [if_pos h, if_neg h2]
theorem zl1 {m : Mn} {l : List Sg} {n : Int} (h : colE m l = 0) (h2 : ¬ (n < 0 \/ colN m l <= n)) : digP n (prL m l).length (prL m l).length = cfV m l n := by unfold cfV; rw [if_pos h, if_neg h2]
attribute [local irreducible] prL colN colE bitv dig digP andI
theorem zjw (m : Mn) (l : List Sg) (n : Int) (hl : l.length <= 1000) : Fn Tryz.prog 111 [mnA m, sgsA l, iv n] (.tup [yg (cfV m l n), iv (cfE m l n)]) := by
 refine Fn.go Tryz.func111 Tryz.ntmps111 (fun g w d => ?_);apply yb;refine yF ?_;iterate 2 refine ya ?_
 apply yj;iterate 2 refine ya ?_
 refine yq (zdt m l hl) ?_;refine ze ?_;apply yd;apply yb;refine yh ?_;refine yk rfl ?_ ?_<;>intro hc1
 ·apply yb;refine yn ?_;refine X.ret ?_;refine RetQ.imp (yi (ts := [(6, yg []), (7, iv (colE m l))]) (hs := [])) ?_;refine yu ?_ ?_;all_goals (first | exact congrArg yg (zlX hc1) | exact congrArg (AV.int .i64) (zlW hc1) | exact congrArg yg (zlZ hc1 (by omega)) | exact congrArg (AV.int .i64) (zlY hc1 (by omega)) | exact congrArg yg (zl1 hc1 (by omega)) | exact congrArg (AV.int .i64) (zl0 hc1 (by omega)))
 apply yf;apply yd;apply yb;iterate 2 refine ya ?_
 refine ExF.at 2 ?_;refine yI ?_;iterate 3 refine ExF.gi ?_
 refine yA ?_;refine ye ?_;refine yk rfl ?_ ?_<;>intro hc2
 ·apply yb;refine yh ?_;refine X.ret ?_;refine RetQ.imp (yi (ts := [(6, yg []), (7, iv 2)]) (hs := [])) ?_;refine yu ?_ ?_;all_goals (first | exact congrArg yg (zlX hc1) | exact congrArg (AV.int .i64) (zlW hc1) | exact congrArg yg (zlZ hc1 (by omega)) | exact congrArg (AV.int .i64) (zlY hc1 (by omega)) | exact congrArg yg (zl1 hc1 (by omega)) | exact congrArg (AV.int .i64) (zl0 hc1 (by omega)))
 have hz := zlV hc1;have hpb := zbX hz.2.1;have hb0 := zqv ⟨(prL m l).length, by omega⟩;have he0 : [] = digP n (prL m l).length 0 := by unfold digP; rfl
 have hk6 := hz.2.1;have hcn := hz.2.2;rw [← hcn] at hb0 hpb;apply yf;apply yb;refine ye ?_;iterate 2 apply yd
 refine X.imp (y5 intE 3 1 10 10 rfl rfl) ?_;apply yc;refine ya ?_;refine ya (hs := zjY rfl rfl) ?_;refine ye ?_;apply X.block;refine zh (ι := Nat) (fun (k : Nat) => [(2, iv n), (10, .own 10), (11, iv (bitv (prL m l).length k))]) (fun (k : Nat) => [(10, .row intE (digP n (prL m l).length k) 3 1)]) (fun (k : Nat) => k <= (prL m l).length) (fun (k : Nat) => (prL m l).length - k) 0 (fun k hk => ?_);apply yd;apply yb;refine yh ?_;refine yk rfl ?_ ?_<;>intro hc3
 ·have hkl : k < (prL m l).length := by
   apply Classical.byContradiction; intro hn;rw [zqy hn] at hc3; omega
  have hlen := ziA n (prL m l).length k;have hbs := zqw (K := (prL m l).length) (j := k) hk6 (by omega);have hda := zn3 (n := n) (by omega) (by omega) hk6 hkl;have hst := zlf n (prL m l).length k;apply yf;apply yd;apply X.block;apply yb;iterate 2 refine ya ?_
  refine ya (hs := zrv rfl rfl) ?_;refine ye ?_;refine yk rfl ?_ ?_<;>intro hc4
  ·rw [if_pos hc4] at hda; rw [hda] at hst;apply yc;refine ya ?_;refine y2 intE [_] ?_;refine Ex.mo ?_;refine ye ?_;apply yc;refine ya ?_;refine ya (hs := zjY rfl rfl) ?_;refine ye ?_;refine yP (k + 1)
  ·rw [if_neg hc4] at hda; rw [hda] at hst;apply yc;refine ya ?_;refine y2 intE [_] ?_;refine Ex.mo ?_;refine ye ?_;apply yc;refine ya ?_;refine ya (hs := zjY rfl rfl) ?_;refine ye ?_;refine yP (k + 1)
 ·have hkl : k = (prL m l).length := by
   apply Classical.byContradiction; intro hn;have hbb := zqx (K := (prL m l).length) (j := k) hk6 (by omega);omega
  subst hkl;apply X.exit;apply yb;refine yn ?_;refine X.ret ?_;refine RetQ.imp (Imp.freeze (k := 10) rfl) ?_;refine yu ?_ ?_;all_goals (first | exact congrArg yg (zlX hc1) | exact congrArg (AV.int .i64) (zlW hc1) | exact congrArg yg (zlZ hc1 (by omega)) | exact congrArg (AV.int .i64) (zlY hc1 (by omega)) | exact congrArg yg (zl1 hc1 (by omega)) | exact congrArg (AV.int .i64) (zl0 hc1 (by omega)))
end Go.Rse
namespace Go.Rse
open Go Go.Proofs
section
variable {α : Type}
theorem zc9 {q : Int} : ∀ (l : List (Int × α)) (i : Nat), mix q l i = (mix q l 0).map (fun p => (p.1 + i, p.2))
 | [], i => rfl
 | p :: l, i => by
  unfold mix;by_cases h : p.1 = q
  ·simp [h]
  ·rw [if_neg h, if_neg h, zc9 l (i + 1), zc9 l 1, Option.map_map];congr 1; funext x; simp; omega
theorem zl2 (q : Int) : mget q ([] : List (Int × α)) = none := rfl
theorem zbY (q : Int) (p : Int × α) (l : List (Int × α)) : mget q (p :: l) = if p.1 = q then some p.2 else mget q l := by
 have e : mix q (p :: l) 0 = if p.1 = q then some (0, p.2) else mix q l 1 := rfl
 unfold mget;rw [e];by_cases h : p.1 = q
 ·simp [h]
 ·rw [if_neg h, if_neg h, zc9 l 1, Option.map_map]; rfl
theorem zl3 (q : Int) (x : α) : mput q x [] = [(q, x)] := rfl
theorem zlg (q : Int) (x : α) (p : Int × α) (l : List (Int × α)) : mput q x (p :: l) = if p.1 = q then (q, x) :: l else p :: mput q x l := by
 unfold mput;by_cases h : p.1 = q
 ·simp [mix, h]
 ·have e : mix q (p :: l) 0 = (mix q l 0).map (fun z => (z.1 + 1, z.2)) := by
   rw [show mix q (p :: l) 0 = mix q l 1 by simp [mix, h], zc9 l 1]
  rw [e, if_neg h];cases mix q l 0 with
  | none => rfl
  | some z => rfl
theorem zda (q q' : Int) (x : α) : ∀ l : List (Int × α), mget q (mput q' x l) = if q' = q then some x else mget q l
 | [] => by rw [zl3, zbY]
 | p :: l => by
  rw [zlg];by_cases h : p.1 = q'
  ·rw [if_pos h, zbY, zbY];by_cases h2 : q' = q
   ·simp [h2]
   ·rw [if_neg h2, if_neg h2, if_neg (by rw [h]; exact h2)]
  ·rw [if_neg h, zbY, zbY, zda q q' x l];by_cases h2 : p.1 = q
   ·rw [if_pos h2, if_pos h2, if_neg (by omega)]
   ·rw [if_neg h2, if_neg h2]
end
end Go.Rse
namespace Go.Rse
open Go Go.Proofs
def za7 (p mi : List Int) : Nat -> List (Int × Tm)
 | 0 => []
 | k + 1 => if mi[k]? = some 2 then mput (p.getD k 0 + 1) ⟨1, 2⟩ (mput (p.getD k 0) ⟨3, 2⟩ (za7 p mi k)) else za7 p mi k
theorem zbC {α : Type} {l : List α} {k : Nat} {x d : α} (h : l[k]? = some x) : l.getD k d = x := by
 rw [List.getD_eq_getElem?_getD, h]; rfl
theorem zlh {p mi : List Int} {k : Nat} {x y : Int} (hx : p[k]? = some x) (hy : mi[k]? = some y) (h : y = 2) : mput (x + 1) ⟨1, 2⟩ (mput x ⟨3, 2⟩ (za7 p mi k)) = za7 p mi (k + 1) := by
 conv => rhs; unfold za7
 rw [if_pos (by rw [hy, h]), zbC hx]
theorem zli {p mi : List Int} {k : Nat} {y : Int} (hy : mi[k]? = some y) (h : y = 1) : za7 p mi k = za7 p mi (k + 1) := by
 conv => rhs; unfold za7
 rw [if_neg (by rw [hy, h]; simp)]
def bsT (m : Mn) (s : Sg) : Tm := if clr s = true then durT m s.Value else fullT m s.Value
theorem zr7 {m : Mn} {s : Sg} (h : clr s = true) : durT m s.Value = bsT m s := by unfold bsT; rw [if_pos h]
theorem zr8 {m : Mn} {s : Sg} (h : clr s = false) : fullT m s.Value = bsT m s := by unfold bsT; rw [if_neg (by rw [h]; decide)]
def dvK (m : Mn) (l : List Sg) (M : List (Int × Tm)) : Nat -> List Tm
 | 0 => []
 | k + 1 => match l[k]? with
  | some s => if s.Kind = 3 then dvK m l M k else dvK m l M k ++ [(mget (k : Int) M).getD (bsT m s)]
  | none => dvK m l M k
theorem zhH {m : Mn} {l : List Sg} {M : List (Int × Tm)} {k : Nat} {s : Sg} (hs : l[k]? = some s) (h : s.Kind = 3) : dvK m l M k = dvK m l M (k + 1) := by
 conv => rhs; unfold dvK
 rw [hs]; simp only [if_pos h]
theorem zhI {m : Mn} {l : List Sg} {M : List (Int × Tm)} {k : Nat} {s : Sg} (hs : l[k]? = some s) (h : ¬ s.Kind = 3) : dvK m l M k ++ [(mget (k : Int) M).getD (bsT m s)] = dvK m l M (k + 1) := by
 conv => rhs; unfold dvK
 rw [hs]; simp only [if_neg h]
theorem zkh (m : Mn) (l : List Sg) (M : List (Int × Tm)) : ∀ k, (dvK m l M k).length <= k
 | 0 => Nat.le_refl _
 | k + 1 => by
  have := zkh m l M k;unfold dvK;split
  ·split
   ·omega
   ·simp; omega
  ·omega
theorem zqA {M : List (Int × Tm)} {i : Int} {b z : Tm} (h : (mget i M).isSome = true) : (mget i M).getD z = (mget i M).getD b := by
 cases hm : mget i M with
 | none => rw [hm] at h; simp at h
 | some x => rfl
theorem zl4 {M : List (Int × Tm)} {i : Int} {b : Tm} (h : (mget i M).isSome = false) : b = (mget i M).getD b := by
 cases hm : mget i M with
 | none => rfl
 | some x => rw [hm] at h; simp at h
def mnOk (mi : List Int) : Bool := mi.all fun x => decide (x = 1) || decide (x = 2)
def duE (m : Mn) (l : List Sg) (mi : List Int) : Int := if ckD m l = 0 then (if mi.length = (prL m l).length /\ mnOk mi = true then 0 else 2) else ckD m l
def duM (m : Mn) (l : List Sg) (mi : List Int) : List (Int × Tm) := za7 (prL m l) mi (prL m l).length
def duV (m : Mn) (l : List Sg) (mi : List Int) : List Tm := if duE m l mi = 0 then dvK m l (duM m l mi) l.length else []
theorem zl5 {mi : List Int} {k : Nat} {y : Int} (hy : mi[k]? = some y) (h1 : ¬ y = 1) (h2 : ¬ y = 2) : mnOk mi = false := by
 cases h : mnOk mi with
 | false => rfl
 | true =>
  unfold mnOk at h;have := List.all_eq_true.1 h y (List.mem_of_getElem? hy);simp [h1, h2] at this
theorem zl6 {mi : List Int} (h : ∀ (j : Nat) y, j < mi.length -> mi[j]? = some y -> y = 1 \/ y = 2) : mnOk mi = true := by
 unfold mnOk;rw [List.all_eq_true];intro y hy;obtain ⟨j, hj⟩ := List.mem_iff_getElem?.1 hy;have := h j y (List.getElem?_eq_some_iff.1 hj).1 hj;simp [this]
def mnK (mi : List Int) (k : Nat) : Prop := ∀ (j : Nat) y, j < k -> mi[j]? = some y -> y = 1 \/ y = 2
theorem zr9 (mi : List Int) : mnK mi 0 := fun j y h => by omega
theorem zpA {mi : List Int} {k : Nat} {y : Int} (h : mnK mi k) (hy : mi[k]? = some y) (hv : y = 1 \/ y = 2) : mnK mi (k + 1) := fun j z hj hz => by
 rcases Nat.lt_or_ge j k with h1 | h1
 ·exact h j z h1 hz
 ·have : j = k := by omega
  subst this; rw [hy] at hz; injection hz with hz; subst hz; exact hv
theorem zqB {mi : List Int} (h : mnK mi mi.length) : mnOk mi = true := zl6 fun j y hj hy => h j y hj hy
theorem zsa {m : Mn} {l : List Sg} {mi : List Int} (h : ¬ ckD m l = 0) : ckD m l = duE m l mi := by unfold duE; rw [if_neg h]
theorem zsb {m : Mn} {l : List Sg} {mi : List Int} (h : ckD m l = 0) (h2 : ¬ mi.length = (prL m l).length) : 2 = duE m l mi := by unfold duE; rw [if_pos h, if_neg (fun e => h2 e.1)]
theorem zsc {m : Mn} {l : List Sg} {mi : List Int} (h : ckD m l = 0) (h2 : mnOk mi = false) : 2 = duE m l mi := by unfold duE; rw [if_pos h, if_neg (fun e => by rw [h2] at e; exact absurd e.2 (by decide))]
theorem zsd {m : Mn} {l : List Sg} {mi : List Int} (h : ckD m l = 0) (h1 : mi.length = (prL m l).length) (h2 : mnOk mi = true) : 0 = duE m l mi := by unfold duE; rw [if_pos h, if_pos ⟨h1, h2⟩]
theorem zl7 {m : Mn} {l : List Sg} {mi : List Int} {e : Int} (h : e = duE m l mi) (he : ¬ e = 0) : [] = duV m l mi := by unfold duV; rw [if_neg (by rw [← h]; exact he)]
theorem zse {m : Mn} {l : List Sg} {mi : List Int} (h : 0 = duE m l mi) : dvK m l (duM m l mi) l.length = duV m l mi := by unfold duV; rw [if_pos h.symm]
theorem zbm {m : Mn} {l : List Sg} (h : ckD m l = 0) {k : Nat} {s : Sg} (hs : l[k]? = some s) (h3 : ¬ s.Kind = 3) : ckM m = 0 /\ 1 <= s.Value /\ s.Value <= 8 := by
 have hm : ckM m = 0 := by
  unfold ckD at h; split at h
  ·assumption
  ·exact absurd h (by assumption)
 have hf : zK m l 0 l = 0 := by unfold ckD at h; rw [if_pos hm] at h; exact h
 have hk : k < l.length := (List.getElem?_eq_some_iff.1 hs).1;have hF := (zan hf (k + 1) (by omega)).2 k s (by omega) hs;unfold sgF at hF;refine ⟨hm, ?_⟩;split at hF
 ·split at hF
  ·assumption
  ·omega
 ·first | omega | (rw [if_neg h3] at hF; omega) | (split at hF <;> first | omega | contradiction)
theorem zfU {m : Mn} {l : List Sg} : ∀ (k : Nat) (x : Int), x ∈ zu m l k -> 0 <= x /\ x < (k : Int)
 | 0, x, h => by unfold zu at h; simp at h
 | k + 1, x, h => by
  unfold zu at h;split at h
  ·rcases List.mem_append.1 h with h | h
   ·have := zfU k x h; omega
   ·simp at h; omega
  ·have := zfU k x h; omega
theorem zqC {m : Mn} {l : List Sg} {k : Nat} {x : Int} (h : (prL m l)[k]? = some x) : 0 <= x /\ x < (l.length : Int) := by
 unfold prL at h;split at h
 ·unfold zR at h; exact zfU _ x (List.mem_of_getElem? h)
 ·simp at h
end Go.Rse
