/-
  Plain: a run's combinations, the meanings of dots and pairs as one list.
-/
import Derived.Test.YtbilklnipfabpaaGreatDoorPJLvl16
import Derived.Test.YtbilklnipfabpaaGreatDoorPJTime
import Derived.Test.YtbilklnipfabpaaGreatDoorPJMens2
import Derived.Test.YtbilklnipfabpaaGreatDoorPLogB
import Derived.Test.YtbilklnipfabpaaGreatDoorPLogC
import Derived.Test.YtbilklnipfabpaaGreatDoorPJColor4
import Derived.Test.YtbilklnipfabpaaGreatDoorPDot9
import Derived.Test.YtbilklnipfabpaaGreatDoorPJFull1
import Derived.Test.YtbilklnipfabpaaGreatDoorPJDurs2
set_option linter.unusedSimpArgs false
set_option linter.unusedVariables false
namespace Go.Rse
open Go Go.Proofs
def rP (m : Mn) (l : List Sg) : List (List Int) := List.replicate (prL m l).length [1, 2] ++ (mnsD m l).reverse
theorem zlP (n : Int) (P : Nat) : digP n (P + 1) (P + 1) = digP (n / 2) P P ++ [if n % 2 = 0 then 1 else 2] := by
 unfold digP;rw [List.range_succ, List.map_append];congr 1
 ·refine List.map_congr_left fun j hj => ?_
  have hj := List.mem_range.1 hj;unfold dig;rw [show P + 1 - 1 - j = (P - 1 - j) + 1 by omega, Int.pow_succ, Int.mul_comm, ← Int.ediv_ediv_of_nonneg (by decide)]
 ·simp [dig]
theorem zkb (A : List (List Int)) : ∀ (P : Nat) (n : Int), ofG (List.replicate P [1, 2] ++ A) n = ofG A (n / 2 ^ P) ++ digP n P P
 | 0, n => by simp [digP]
 | P + 1, n => by
  have ih := zkb A P (n / 2);rw [List.replicate_succ, List.cons_append];show ofG (List.replicate P [1, 2] ++ A) (n / 2) ++ [([1, 2] : List Int).getD (n % 2).toNat 0] = _;rw [ih, zlP, ← List.append_assoc, Int.ediv_ediv_of_nonneg (by decide), ← Int.mul_comm, ← Int.pow_succ];congr 2;rcases Int.emod_two_eq n with h | h <;> rw [h] <;> rfl
theorem zix : ∀ P : Nat, cntG (List.replicate P [1, 2]) = 2 ^ P
 | 0 => rfl
 | P + 1 => by
  rw [List.replicate_succ];show 2 * cntG (List.replicate P [1, 2]) = _;rw [zix P, Int.pow_succ, Int.mul_comm]
theorem zlQ {m : Mn} {l : List Sg} (hM : ckM m = 0) (hck : ckD m l = 0) : ∀ x ∈ rP m l, Asc x := fun x hx => by
 unfold rP at hx;rcases List.mem_append.1 hx with h | h
 ·obtain ⟨_, rfl⟩ := List.mem_replicate.1 h;exact .inr ⟨1, 2, rfl, by decide⟩
 ·exact zmP hM hck x h
theorem zlR {m : Mn} {l : List Sg} (h : ictE m l = 0) : ictV m l = cntG (rP m l) := by
 obtain ⟨hck, a, b, q2, q3, hV, h64, hc⟩ := zgc h;unfold rP;rw [zcK, zix, hV, q3, zpN a, Int.mul_comm]
def cmb (m : Mn) (l : List Sg) (n : Int) : List Int := iofD m l n ++ iofM m l n
theorem zr5 {m : Mn} {l : List Sg} {n : Int} (h : iofE m l n = 0) : cmb m l n = ofG (rP m l) n := by
 unfold cmb iofD iofM rP;rw [if_pos h, if_pos h, zkb, zmN]
theorem zhC {m : Mn} {l : List Sg} (h : ictE m l = 0) {i : Nat} (hi : (i : Int) < ictV m l) : iofE m l (i : Int) = 0 := by
 unfold iofE; rw [if_pos h, if_neg (by omega)]
theorem zhD {m : Mn} {l : List Sg} {n : Int} (h : iofE m l n = 0) : (iofD m l n).length = (mnsD m l).length := by
 unfold iofD; rw [if_pos h, zmN, zkz]; simp
theorem zhE {m : Mn} {l : List Sg} {n : Int} (h : iofE m l n = 0) : (iofM m l n).length = (prL m l).length := by
 unfold iofM; rw [if_pos h, ziA]
theorem znV (n : Int) (K j : Nat) : mnOk (digP n K j) = true := by
 unfold mnOk digP;rw [List.all_eq_true];intro x hx;obtain ⟨i, _, rfl⟩ := List.mem_map.1 hx;unfold dig;split <;> simp
theorem zjo {m : Mn} {l : List Sg} (hM : ckM m = 0) (hck : ckD m l = 0) {n : Int} (he : iofE m l n = 0) : itmE m l (iofD m l n) (iofM m l n) = 0 := by
 obtain ⟨hE, h0, h1⟩ := zpK he;obtain ⟨_, a, b, q2, q3, hV, h64, hc⟩ := zgc hE
 have hmk : mkE m l (iofD m l n) = 0 := by
  have hq0 : 0 <= n / 2 ^ (prL m l).length := Int.ediv_nonneg h0 (by have := zbX q2; omega);have hq1 : n / 2 ^ (prL m l).length < cntV m l := Int.ediv_lt_of_lt_mul (by have := zbX q2; omega) (by rw [← q3, ← hV]; exact h1);have h := zsJ (zmM (zmP hM hck) hq0 (by rw [← zpN a]; exact hq1));unfold mkE iofD;rw [if_pos hck, if_pos he, zmN, if_pos h]
 have hdu : duE m l (iofM m l n) = 0 := by
  unfold duE;rw [if_pos hck, if_pos ⟨zhE he, by unfold iofM; rw [if_pos he]; exact znV _ _ _⟩]
 unfold itmE;rw [if_pos hmk, hdu]
theorem zkc {m : Mn} {l : List Sg} (hM : ckM m = 0) (h : ictE m l = 0) : 1 <= ictV m l /\ ictV m l <= 64 := by
 have h0 := zgc h;exact ⟨by rw [zlR h]; exact ziS (zlQ hM h0.1), h0.2.2.2.2.2.2.1⟩
theorem zkd (m : Mn) (l : List Sg) : (mnsD m l).length <= l.length := by
 unfold mnsD; rw [List.length_map]; exact zb2 l l.length
end Go.Rse
namespace Go.Rse
open Go Go.Proofs
attribute [local irreducible] Pur yx yz Ex X Fn Imp LeV LeB FnO It yC
theorem zgX {α : Type} {a b : List α} {k : Nat} {x : α} (ha : a[k]? = some x) (hb : b[k]? = some x) (h : a.take k = b.take k) : a.take (k + 1) = b.take (k + 1) := by
 rw [List.take_add_one, List.take_add_one, ha, hb, h]
theorem zke {α : Type} {a b : List α} {k : Nat} (hl : a.length = b.length) (hk : a.length <= k) (h : a.take k = b.take k) : a = b := by
 rwa [List.take_of_length_le hk, List.take_of_length_le (by omega)] at h
theorem zpz {α : Type} {a b : List α} {k : Nat} {x y : α} (ha : a[k]? = some x) (hb : b[k]? = some y) (h : x ≠ y) : a ≠ b := fun e => by
 subst e; rw [ha] at hb; injection hb with hb; exact h hb
def zeU : Sg := ⟨3, 0, 0, 0, false, 0, false, false, ⟨0, 0, 0, 0⟩, false, 0, 0, 0, 0⟩
def zcC : Mn := ⟨2, 2, 3, 2⟩
theorem zlS {a n : Int} (hn : 0 < n) : (a.tmod n < 0 -> a.tmod n + n = a % n) /\ (¬ a.tmod n < 0 -> a.tmod n = a % n) /\ -n < a.tmod n /\ a.tmod n < n := by
 rw [Int.tmod_eq_emod];have h0 := Int.emod_nonneg a (show n ≠ 0 by omega);have h1 := Int.emod_lt_of_pos a hn;split <;> omega
def mMk (n : Int) : Mn := ⟨2 + n % 16 / 8, 2 + n % 16 / 4 % 2, 2 + n % 16 / 2 % 2, 2 + n % 16 % 2⟩
theorem zqo (n : Int) : ckM (mMk n) = 0 := by
 unfold ckM;rw [if_pos];unfold Mn.Ok two3 mMk;exact ⟨by show 2 + n % 16 / 8 = 2 \/ 2 + n % 16 / 8 = 3; omega, by show 2 + n % 16 / 4 % 2 = 2 \/ 2 + n % 16 / 4 % 2 = 3; omega, by show 2 + n % 16 / 2 % 2 = 2 \/ 2 + n % 16 / 2 % 2 = 3; omega, by show 2 + n % 16 % 2 = 2 \/ 2 + n % 16 % 2 = 3; omega⟩
attribute [local irreducible] gI mMk
theorem z8 (a b : List Int) (hl : a.length <= 4000000000) : Fn Tryz.prog 38 [yg a, yg b] (.bool (decide (a = b))) := by
 refine Fn.go Tryz.func38 Tryz.ntmps38 (fun g w d => ?_);apply yb;refine ye ?_;apply yd;apply yb;refine ze ?_;refine yk rfl ?_ ?_<;>intro hc1
 ·apply yb;refine ye ?_;refine X.ret ?_;refine ym ?_;all_goals (congr 1; exact (decide_eq_false fun e => by subst e; omega).symm)
 apply yf;apply yd;apply yb;refine ye ?_;apply X.block
 refine zh (ι := Nat) (fun (k : Nat) => [(0, yg a), (1, yg b), (5, iv (k : Int))]) (fun (k : Nat) => []) (fun (k : Nat) => k <= a.length /\ a.take k = b.take k) (fun (k : Nat) => a.length - k) 0 (fun k hk => ?_) (hJ := by
  exact ⟨by omega, rfl⟩)
 obtain ⟨hk1, hk2⟩ := hk;apply yd;apply yb;refine zT ?_;refine yk rfl ?_ ?_<;>intro hc2
 ·obtain ⟨x, hx⟩ : ∃ x, a[k]? = some x := ⟨_, lgg (by omega)⟩;have hx2 : a[(k : Int).toNat]? = some x := by simpa using hx
  obtain ⟨y, hy⟩ : ∃ y, b[k]? = some y := ⟨_, lgg (by omega)⟩;have hy2 : b[(k : Int).toNat]? = some y := by simpa using hy
  apply yf;apply yd;apply X.block;apply yd;refine zy [17,18,19,20,21,22,23,24,25] [0,0,3,7,0,0,48,112,255] mo ?_;iterate 9 refine yl ?_
  refine y7 ?_;apply Ex.nil;refine yk rfl ?_ ?_<;>intro hc3
  ·apply yb;refine ye ?_;refine X.ret ?_;refine ym ?_;all_goals (congr 1; exact (decide_eq_false (zpz hx hy (by simpa using hc3))).symm)
  apply yf;apply yc;refine yn ?_
  refine yP (k + 1) (hJ := by
   exact ⟨by omega, zgX hx (by rw [hy]; congr 1; first | exact (by simpa using hc3 : x = y).symm | (simp at hc3; exact hc3.symm)) hk2⟩)
 ·apply X.exit;apply yb;refine ye ?_;refine X.ret ?_;refine ym ?_;all_goals (congr 1; exact (decide_eq_true (zke (by omega) (by omega) hk2)).symm)
theorem zcv (a b : List Tm) (hl : a.length <= 4000000000) : Fn Tryz.prog 29 [tmsA a, tmsA b] (.bool (decide (a = b))) := by
 refine Fn.go Tryz.func29 Tryz.ntmps29 (fun g w d => ?_);apply yb;refine ye ?_;apply yd;apply yb;refine ze ?_;refine yk rfl ?_ ?_<;>intro hc1
 ·apply yb;refine ye ?_;refine X.ret ?_;refine ym ?_;all_goals (congr 1; exact (decide_eq_false fun e => by subst e; omega).symm)
 apply yf;apply yd;apply yb;refine ye ?_;apply X.block
 refine zh (ι := Nat) (fun (k : Nat) => [(0, tmsA a), (1, tmsA b), (5, iv (k : Int))]) (fun (k : Nat) => []) (fun (k : Nat) => k <= a.length /\ a.take k = b.take k) (fun (k : Nat) => a.length - k) 0 (fun k hk => ?_) (hJ := by
  exact ⟨by omega, rfl⟩)
 obtain ⟨hk1, hk2⟩ := hk;apply yd;apply yb;refine zT ?_;refine yk rfl ?_ ?_<;>intro hc2
 ·obtain ⟨x, hx⟩ : ∃ x, a[k]? = some x := ⟨_, lgg (by omega)⟩;have hx2 : a[(k : Int).toNat]? = some x := by simpa using hx
  obtain ⟨y, hy⟩ : ∃ y, b[k]? = some y := ⟨_, lgg (by omega)⟩;have hy2 : b[(k : Int).toNat]? = some y := by simpa using hy
  apply yf;apply yd;apply X.block;apply yd;refine zy [17,18,19,20,21,22,23,24,25] [0,0,3,7,0,0,48,112,255] mo ?_;iterate 9 refine yl ?_
  refine y7 ?_;apply Ex.nil;refine yk rfl ?_ ?_<;>intro hc3
  ·apply yb;refine ye ?_;refine X.ret ?_;refine ym ?_;all_goals (congr 1; exact (decide_eq_false (zpz hx hy (by simpa using hc3))).symm)
  apply yf;apply yc;refine yn ?_
  refine yP (k + 1) (hJ := by
   exact ⟨by omega, zgX hx (by rw [hy]; congr 1; first | exact (by simpa using hc3 : x = y).symm | (simp at hc3; exact hc3.symm)) hk2⟩)
 ·apply X.exit;apply yb;refine ye ?_;refine X.ret ?_;refine ym ?_;all_goals (congr 1; exact (decide_eq_true (zke (by omega) (by omega) hk2)).symm)
theorem zcr (a n : Int) (ha : -9223372036854775808 <= a /\ a <= 9223372036854775807) (hn : 1 <= n /\ n <= 4611686018427387904) : Fn Tryz.prog 11 [iv a, iv n] (iv (a % n)) := by
 obtain ⟨ht1, ht2, ht3, ht4⟩ := zlS (a := a) (n := n) (by omega);refine Fn.go Tryz.func11 Tryz.ntmps11 (fun g w d => ?_);apply yb;refine ye ?_;apply yd;apply yb;refine yh ?_;refine yk rfl ?_ ?_<;>intro hc1
 ·omega
 apply yf;apply yb;iterate 2 refine ya ?_
 refine zO (zpZ rfl rfl (by omega)) rfl ?_;refine ye ?_;apply yd;apply yb;refine yh ?_;refine yk rfl ?_ ?_<;>intro hc2
 ·apply yc;iterate 4 refine ya ?_
  apply yj;refine yh ?_;refine X.ret ?_;refine ym ?_;all_goals (congr 1; exact ht1 (by omega))
 ·apply yf;apply yb;refine yh ?_;refine X.ret ?_;refine ym ?_;all_goals (congr 1; exact ht2 (by omega))
theorem zeB (n : Int) (hn : -9223372036854775808 <= n /\ n <= 9223372036854775807) : Fn Tryz.prog 7 [iv n] (mnA (mMk n)) := by
 unfold mMk;refine Fn.go Tryz.func7 Tryz.ntmps7 (fun g w d => ?_);apply yb;refine yH ?_;apply yj;refine ya ?_;refine yq (zcr n 16 hn (by omega)) ?_;refine ya ?_;apply yj;iterate 15 refine ya ?_
 refine Ex.mo ?_;apply Ex.nil;refine X.ret ?_;refine RetQ.ret (.one (.cellA rfl rfl rfl rfl ty24 (LeV.eq ?_)));all_goals (first | rfl | (simp_all; done))
theorem zdZ (m : Mn) (v : Int) : Fn Tryz.prog 64 [mnA m, iv v] (iv (m.p v)) := by
 refine Fn.go Tryz.func64 Tryz.ntmps64 (fun g w d => ?_);apply yb;refine yF ?_;refine ye ?_;apply yd;apply yb;refine ye ?_;apply X.block;apply yb;refine yh ?_;refine yk rfl ?_ ?_<;>intro hc1
 ·apply yb;refine yn ?_;refine X.ret ?_;refine ym ?_;all_goals (congr 1; unfold Mn.p; simp [*])
 apply yb;refine yh ?_;refine yk rfl ?_ ?_<;>intro hc2
 ·apply yb;refine yn ?_;refine X.ret ?_;refine ym ?_;all_goals (congr 1; unfold Mn.p; simp [*])
 apply yb;refine yh ?_;refine yk rfl ?_ ?_<;>intro hc3
 ·apply yb;refine yn ?_;refine X.ret ?_;refine ym ?_;all_goals (congr 1; unfold Mn.p; simp [*])
 apply yb;refine yh ?_;refine yk rfl ?_ ?_<;>intro hc4
 ·apply yb;refine yn ?_;refine X.ret ?_;refine ym ?_;all_goals (congr 1; unfold Mn.p; simp [*])
 apply yf;apply yb;refine ye ?_;refine X.ret ?_;refine ym ?_;all_goals (congr 1; unfold Mn.p; simp [*])
end Go.Rse
namespace Go.Rse
open Go Go.Proofs
def abvK (m : Mn) (v : Int) : Bool := (decide (1 < v) && decide (m.p 1 = 3)) || (decide (2 < v) && decide (m.p 2 = 3)) || (decide (3 < v) && decide (m.p 3 = 3)) || (decide (4 < v) && decide (m.p 4 = 3))
theorem zlT {m : Mn} {v k : Int} (h1 : 1 <= k) (h2 : k < v) (h3 : m.p k = 3) : abvK m v = true := by
 have h4 : k <= 4 := by
  rcases Int.lt_or_le 4 k with h | h
  ·rw [znc h] at h3; omega
  ·exact h
 have : k = 1 \/ k = 2 \/ k = 3 \/ k = 4 := by omega
 unfold abvK;rcases this with rfl | rfl | rfl | rfl <;> simp [h2, h3]
theorem zkf {m : Mn} {v : Int} (h : ∀ k, 1 <= k -> k < v -> ¬ m.p k = 3) : abvK m v = false := by
 unfold abvK
 have e : ∀ k : Int, 1 <= k -> (decide (k < v) && decide (m.p k = 3)) = false := fun k hk => by
  by_cases h2 : k < v
  ·rw [decide_eq_false (h k hk h2)]; simp
  ·rw [decide_eq_false h2]; rfl
 rw [e 1 (by omega), e 2 (by omega), e 3 (by omega), e 4 (by omega)]; rfl
theorem znW {m : Mn} {v : Int} (hm : ckM m = 0) (h1 : 1 <= v) (h8 : v <= 8) (h : abvK m v = true) : ¬ m.aV v = 0 := by
 intro ha
 have hv : m.ab v = 0 := by
  have h0 : ckMV m v = 0 := zqJ hm h1 h8;unfold Mn.aV at ha; rw [if_pos h0] at ha; exact ha
 have key : ∀ k : Int, 1 <= k -> k < v -> ¬ m.p k = 3 := by
  intro k hk1 hk2 hk3
  have : ∃ w, 1 <= w /\ w < v /\ m.p w = 3 /\ ∀ u, w < u -> u < v -> m.p u ≠ 3 := by
   have hind : ∀ n : Nat, ∀ w : Int, 1 <= w -> w < v -> m.p w = 3 -> (v - w).toNat = n -> ∃ w, 1 <= w /\ w < v /\ m.p w = 3 /\ ∀ u, w < u -> u < v -> m.p u ≠ 3 := by
    intro n
    induction n using Nat.strongRecOn with
    | ind n ih =>
     intro w hw1 hw2 hw3 hn;by_cases hx : ∃ u, w < u /\ u < v /\ m.p u = 3
     ·obtain ⟨u, h1, h2, h3⟩ := hx;exact ih (v - u).toNat (by omega) u (by omega) h2 h3 rfl
     ·exact ⟨w, hw1, hw2, hw3, fun u h1 h2 h3 => hx ⟨u, h1, h2, h3⟩⟩
   exact hind _ k hk1 hk2 hk3 rfl
  obtain ⟨w, w1, w2, w3, w4⟩ := this;rw [zo0 w1 w2 w3 w4] at hv; omega
 rw [zkf key] at h; exact absurd h (by decide)
def rnV (n : Int) : Int := ([3, 4, 4, 5, 5, 3, 2, 6] : List Int).getD (n % 8).toNat 0
theorem znX : ∀ k : Fin 8, 2 <= ([3, 4, 4, 5, 5, 3, 2, 6] : List Int).getD k.val 0 /\ ([3, 4, 4, 5, 5, 3, 2, 6] : List Int).getD k.val 0 <= 6 := by decide
theorem zkg (n : Int) : 2 <= rnV n /\ rnV n <= 6 := znX ⟨(n % 8).toNat, by omega⟩
def rnS (i : Nat) (n : Int) : Sg := if n / 8 % 9 = 0 then ⟨2, rnV n, 0, 0, false, 0, false, false, ⟨0, 0, 0, 0⟩, false, 0, 0, 0, 0⟩
 else ⟨1, rnV n, (i : Int) % 9, 0, decide (n / 8 % 9 = 1) || decide (n / 8 % 9 = 2), 0, false, false, ⟨0, 0, 0, 0⟩, false, 0, 0, 0, 0⟩
def rnK (m : Mn) (nums : List Int) (most : Int) : Nat -> List Sg
 | 0 => []
 | k + 1 => match nums[k]? with
  | some x => if ((rnK m nums most k).length : Int) < most then
   (if x % 504 / 72 = 0 /\ ((rnK m nums most k).length : Int) + 1 < most /\ ((rnS k (x % 504)).Kind = 1 \/ abvK m (rnS k (x % 504)).Value = true)
    then rnK m nums most k ++ [rnS k (x % 504)] ++ [zeU] else rnK m nums most k ++ [rnS k (x % 504)]) else rnK m nums most k
  | none => rnK m nums most k
def rnL (m : Mn) (nums : List Int) (most : Int) : List Sg := rnK m nums most nums.length
theorem znY {m : Mn} {nums : List Int} {most : Int} {k : Nat} {x : Int} (hx : nums[k]? = some x) (h : ((rnK m nums most k).length : Int) < most) (hd : x % 504 / 72 = 0 /\ ((rnK m nums most k).length : Int) + 1 < most) (hk : (rnS k (x % 504)).Kind = 1 \/ abvK m (rnS k (x % 504)).Value = true) : rnK m nums most k ++ [rnS k (x % 504)] ++ [zeU] = rnK m nums most (k + 1) := by
 conv => rhs; unfold rnK
 rw [hx]; simp only [if_pos h, if_pos (show _ /\ _ /\ _ from ⟨hd.1, hd.2, hk⟩)]
theorem znZ {m : Mn} {nums : List Int} {most : Int} {k : Nat} {x : Int} (hx : nums[k]? = some x) (h : ((rnK m nums most k).length : Int) < most) (hd : ¬ (x % 504 / 72 = 0 /\ ((rnK m nums most k).length : Int) + 1 < most /\ ((rnS k (x % 504)).Kind = 1 \/ abvK m (rnS k (x % 504)).Value = true))) : rnK m nums most k ++ [rnS k (x % 504)] = rnK m nums most (k + 1) := by
 conv => rhs; unfold rnK
 rw [hx]; simp only [if_pos h, if_neg hd]
theorem ziy {m : Mn} {nums : List Int} {most : Int} {k : Nat} (h : most <= ((rnK m nums most k).length : Int)) : ∀ d, rnK m nums most (k + d) = rnK m nums most k
 | 0 => rfl
 | d + 1 => by
  show rnK m nums most ((k + d) + 1) = _;have ih := ziy h d;conv => lhs; unfold rnK
  rw [ih];split
  ·rw [if_neg (by omega)]
  ·rfl
theorem zhF (m : Mn) (nums : List Int) {most : Int} (h0 : 0 <= most) : ∀ k, ((rnK m nums most k).length : Int) <= most
 | 0 => h0
 | k + 1 => by
  have := zhF m nums h0 k;unfold rnK;split
  ·split
   ·split <;> simp <;> omega
   ·exact this
  ·exact this
def Gr (m : Mn) (l : List Sg) : Prop := ∀ (i : Nat) s, l[i]? = some s -> ((s.Kind = 1 \/ s.Kind = 2) /\ 1 <= s.Value /\ s.Value <= 8) \/ (s.Kind = 3 /\ ∃ (j : Nat) (p : Sg), i = j + 1 /\ l[j]? = some p /\ (p.Kind = 1 \/ (p.Kind = 2 /\ 1 <= p.Value /\ p.Value <= 8 /\ abvK m p.Value = true)))
theorem Gr.nil (m : Mn) : Gr m [] := fun i s h => by simp at h
theorem Gr.append {m : Mn} {a b : List Sg} (ha : Gr m a) (hb : Gr m b) : Gr m (a ++ b) := fun i s h => by
 rw [List.getElem?_append] at h;split at h
 ·rename_i hi;rcases ha i s h with h1 | ⟨h1, j, p, h2, h3, h4⟩
  ·exact .inl h1
  ·exact .inr ⟨h1, j, p, h2, by rw [List.getElem?_append, if_pos (by omega)]; exact h3, h4⟩
 ·rename_i hi;rcases hb _ s h with h1 | ⟨h1, j, p, h2, h3, h4⟩
  ·exact .inl h1
  ·refine .inr ⟨h1, j + a.length, p, by omega, ?_, h4⟩;rw [List.getElem?_append, if_neg (by omega), show j + a.length - a.length = j by omega]; exact h3
theorem ziz (i : Nat) (n : Int) : ((rnS i n).Kind = 1 \/ (rnS i n).Kind = 2) /\ 2 <= (rnS i n).Value /\ (rnS i n).Value <= 6 := by
 have := zkg n;unfold rnS;split
 ·exact ⟨.inr rfl, this⟩
 ·exact ⟨.inl rfl, this⟩
theorem zqp {m : Mn} (i : Nat) (n : Int) : Gr m [rnS i n] := fun j s h => by
 cases j with
 | zero =>
  have := ziz i n;simp at h; subst h; exact .inl ⟨this.1, by omega, by omega⟩
 | succ j => simp at h
theorem zqq {m : Mn} {i : Nat} {n : Int} (h : (rnS i n).Kind = 1 \/ abvK m (rnS i n).Value = true) : Gr m [rnS i n, zeU] := fun j s hs => by
 have hk := ziz i n;cases j with
 | zero => simp at hs; subst hs; exact .inl ⟨hk.1, by omega, by omega⟩
 | succ j =>
  cases j with
  | zero =>
   simp at hs; subst hs;refine .inr ⟨rfl, 0, rnS i n, rfl, rfl, ?_⟩;rcases hk.1 with h1 | h1
   ·exact .inl h1
   ·rcases h with h | h
    ·exact .inl h
    ·exact .inr ⟨h1, by omega, by omega, h⟩
  | succ j => simp at hs
theorem zlU (m : Mn) (nums : List Int) (most : Int) : ∀ k, Gr m (rnK m nums most k)
 | 0 => Gr.nil m
 | k + 1 => by
  have ih := zlU m nums most k;unfold rnK;split
  ·split
   ·split
    ·rename_i h;rw [List.append_assoc];exact ih.append (zqq h.2.2)
    ·exact ih.append (zqp _ _)
   ·exact ih
  ·exact ih
theorem zqr {m : Mn} {l : List Sg} (hm : ckM m = 0) (h : Gr m l) {i : Nat} {s : Sg} (hs : l[i]? = some s) : sgR m l i s = 0 := by
 unfold sgR;rcases h i s hs with ⟨h1, h2, h3⟩ | ⟨h1, j, p, rfl, h3, h4⟩
 ·rw [if_pos h1, if_pos ⟨h2, h3⟩]
 ·rw [if_neg (by omega), if_pos h1];simp only [h3];rw [if_neg];rcases h4 with h4 | ⟨h4, h5, h6, h7⟩
  ·omega
  ·have := znW hm (by omega) (by omega) h7;omega
theorem zeV {m : Mn} {l : List Sg} (h : ∀ (i : Nat) s, l[i]? = some s -> sgR m l i s = 0) : ∀ (n k : Nat), l.length - k = n -> zbb m l k (l.drop k) = 0
 | 0, k, hn => by rw [List.drop_of_length_le (by omega)]; rfl
 | n + 1, k, hn => by
  have hs : l[k]? = some l[k] := lgg (by omega);rw [zf3 hs (h k _ hs)];exact zeV h n (k + 1) (by omega)
theorem zr6 {m : Mn} {l : List Sg} (hm : ckM m = 0) (h : Gr m l) : ckD m l = 0 := by
 rw [zsn]; unfold ckR; rw [if_pos hm];have := zeV (m := m) (fun i s hs => zqr hm h hs) l.length 0 rfl;simpa using this
theorem zqs (m : Mn) (nums : List Int) (most : Int) : Gr m (rnL m nums most) := zlU m nums most _
theorem zn0 (m : Mn) (nums : List Int) {most : Int} (h0 : 0 <= most) : ((rnL m nums most).length : Int) <= most := zhF m nums h0 _
theorem zqt {m : Mn} {nums : List Int} {most : Int} {k : Nat} (hk : k <= nums.length) (h : (nums.length : Int) <= k \/ most <= ((rnK m nums most k).length : Int)) : rnK m nums most k = rnL m nums most := by
 unfold rnL;rcases h with h | h
 ·have : k = nums.length := by omega
  rw [this]
 ·have := ziy h (nums.length - k);rw [show k + (nums.length - k) = nums.length by omega] at this;exact this.symm
theorem zn1 (n : Int) : ([3, 4, 4, 5, 5, 3, 2, 6] : List Int)[(n % 8).toNat]? = some (rnV n) := by
 unfold rnV;rw [List.getD_eq_getElem?_getD, lgg (by simp; omega)]; rfl
theorem zd0 {m : Mn} {nums : List Int} {most : Int} {k : Nat} {x : Int} {s : Sg} (hS : rnS k (x % 504) = s) (hx : nums[k]? = some x) (h : ((rnK m nums most k).length : Int) < most) (hd : (x % 504 / 72 = 0 /\ ((rnK m nums most k ++ [s]).length : Int) < most) /\ (s.Kind = 1 \/ abvK m s.Value = true)) : rnK m nums most k ++ [s] ++ [zeU] = rnK m nums most (k + 1) := by
 subst hS;exact znY hx h ⟨hd.1.1, by have := hd.1.2; simp at this; omega⟩ hd.2
theorem zd1 {m : Mn} {nums : List Int} {most : Int} {k : Nat} {x : Int} {s : Sg} (hS : rnS k (x % 504) = s) (hx : nums[k]? = some x) (h : ((rnK m nums most k).length : Int) < most) (hd : (¬ x % 504 / 72 = 0 \/ most <= ((rnK m nums most k ++ [s]).length : Int)) \/ (¬ s.Kind = 1 /\ abvK m s.Value = false)) : rnK m nums most k ++ [s] = rnK m nums most (k + 1) := by
 subst hS;refine znZ hx h fun e => ?_
 rcases hd with (h1 | h1) | h1
 ·exact h1 e.1
 ·simp at h1; omega
 ·rcases e.2.2 with h2 | h2
  ·exact h1.1 h2
  ·rw [h1.2] at h2; exact absurd h2 (by decide)
end Go.Rse
namespace Go.Rse
open Go Go.Proofs
end Go.Rse
namespace Go.Rse
open Go Go.Proofs
theorem zn2 {m : Mn} {l : List Sg} (h : Gr m l) : ∀ (i : Nat) z, l[i]? = some z -> z.Kind = 3 -> ∃ (j : Nat) (p : Sg), i = j + 1 /\ l[j]? = some p /\ ¬ p.Kind = 3 := fun i z hz h3 => by
 rcases h i z hz with h1 | ⟨_, j, p, h4, h5, h6⟩
 ·omega
 ·exact ⟨j, p, h4, h5, by rcases h6 with h | h <;> omega⟩
end Go.Rse
namespace Go.Rse
open Go Go.Proofs
attribute [local irreducible] Pur yx yz Ex X Fn Imp LeV LeB FnO It yC
attribute [local irreducible] mkC mkA mkE duV duE itK itOf ckD mulV mulE
set_option maxHeartbeats 4000000 in
theorem zd2 (m : Mn) (l : List Sg) (ch mi : List Int) (hl : l.length <= 1000) (hmi : mi.length <= 1000) : Fn Tryz.prog 44 [mnA m, sgsA l, yg ch, yg mi] (.tup [itsA (itmV m l ch mi), iv (itmE m l ch mi)]) := by
 refine Fn.go Tryz.func44 Tryz.ntmps44 (fun g w d => ?_);apply yb;refine yF ?_;refine yh ?_;apply yd;apply yb;iterate 2 refine ya ?_
 refine yq (za2 m l hl) ?_;refine ya ?_;apply yj;refine yh ?_;refine yk rfl ?_ ?_<;>intro hc1
 ·have hE : itmE m l ch mi = ckD m l := by rw [zme (by rw [zjz hc1]; exact hc1), zjz hc1]
  have hV : itmV m l ch mi = [] := zjA (by rw [hE]; exact hc1);apply yb;refine yn ?_;refine X.ret ?_;refine RetQ.imp (yi (ts := [(8, itsA []), (9, iv (ckD m l))]) (hs := [])) ?_;refine yu ?_ ?_;all_goals (first | (rw [hV]; done) | (rw [hE]; done) | (rw [hV]; rfl) | (rw [hE]; rfl))
 apply yf;apply yb;iterate 3 refine ya ?_
 refine yq (zit m l hl ch) ?_;iterate 6 refine ya ?_
 refine ye ?_;apply yd;apply yb;refine yh ?_;refine yk rfl ?_ ?_<;>intro hc2
 ·have hE : itmE m l ch mi = mkE m l ch := zme hc2;have hV : itmV m l ch mi = [] := zjA (by rw [hE]; exact hc2);apply yb;refine yn ?_;refine X.ret ?_;refine RetQ.imp (yi (ts := [(8, itsA []), (9, iv (mkE m l ch))]) (hs := [])) ?_;refine yu ?_ ?_;all_goals (first | (rw [hV]; done) | (rw [hE]; done) | (rw [hV]; rfl) | (rw [hE]; rfl))
 apply yf;apply yb;iterate 3 refine ya ?_
 refine yq (zhL m l mi hl hmi) ?_;refine ze ?_;apply yd;apply yb;refine yh ?_;refine yk rfl ?_ ?_<;>intro hc3
 ·have hE : itmE m l ch mi = duE m l mi := zmf hc2;have hV : itmV m l ch mi = [] := zjA (by rw [hE]; exact hc3);apply yb;refine yn ?_;refine X.ret ?_;refine RetQ.imp (yi (ts := [(8, itsA []), (9, iv (duE m l mi))]) (hs := [])) ?_;refine yu ?_ ?_;all_goals (first | (rw [hV]; done) | (rw [hE]; done) | (rw [hV]; rfl) | (rw [hE]; rfl))
 have hE : itmE m l ch mi = 0 := (zmf hc2).trans hc3;have hV := zhP hE;apply yf;apply yb;refine ye ?_;iterate 2 apply yd
 refine X.imp (y5 itE 95 12 15 201 rfl rfl) ?_;apply yc;refine yn ?_;apply X.block;have hr0 := zsf l (mkC m l ch) (mkA m l ch) (duV m l mi);refine zh (ι := Nat) (fun (k : Nat) => [(11, yg (mkC m l ch)), (12, zdS (mkA m l ch)), (14, tmsA (duV m l mi)), (15, .own 201), (47, sgsA l), (48, iv l.length), (49, iv (k : Int))]) (fun (k : Nat) => [(201, .row itE (itK l (mkC m l ch) (mkA m l ch) (duV m l mi) k) 95 12)]) (fun (k : Nat) => k <= l.length) (fun (k : Nat) => l.length - k) 0 (fun k hk => ?_);apply yb;refine ye ?_;apply yd;refine yk rfl ?_ ?_<;>intro hc4
 ·obtain ⟨s, hs⟩ : ∃ s, l[k]? = some s := ⟨_, lgg (by omega)⟩;have hs2 : l[(k : Int).toNat]? = some s := by simpa using hs
  have hnt := zf1 l (mkC m l ch) (mkA m l ch) (duV m l mi) k;have hnl := zjy l k;apply yf;apply yd;apply X.block;apply yb;iterate 3 refine ya ?_
  refine yH ?_;refine ya ?_;refine Ex.mo ?_;apply Ex.nil;apply yd;apply yb;refine yn ?_;refine yk rfl ?_ ?_<;>intro hc5
  ·have hst := zhO (c := mkC m l ch) (a := mkA m l ch) (d := duV m l mi) hs hc5;apply X.exit;apply yc;refine yh ?_;refine yP (k + 1)
  obtain ⟨x, y, z, hx, hy, hz, hmul, hlt, hm, v1, v8⟩ := zsg hc2 hc3 hs hc5;have hst := zqF hs hc5 hx hy hz;have hx2 : (mkC m l ch)[((itK l (mkC m l ch) (mkA m l ch) (duV m l mi) k).length : Int).toNat]? = some x := by rw [hnt]; simpa using hx
  have hy2 : (mkA m l ch)[((itK l (mkC m l ch) (mkA m l ch) (duV m l mi) k).length : Int).toNat]? = some y := by rw [hnt]; simpa using hy
  have hz2 : (duV m l mi)[((itK l (mkC m l ch) (mkA m l ch) (duV m l mi) k).length : Int).toNat]? = some z := by rw [hnt]; simpa using hz
  apply yf;apply yb;refine yn ?_;refine ziq ⟨[(11, yg (mkC m l ch)), (12, zdS (mkA m l ch)), (14, tmsA (duV m l mi)), (15, .own 201), (18, iv ((itK l (mkC m l ch) (mkA m l ch) (duV m l mi) k).length : Int)), (19, .ptr 19 0 0 0), (47, sgsA l), (48, iv l.length), (49, iv (k : Int))], [(201, .row itE (itK l (mkC m l ch) (mkA m l ch) (duV m l mi) k) 95 12), (19, .box [iv k, iv s.Value, .bool (decide (s.Kind = 2)), .bool (decide (s.Kind = 1) && s.Color), .bool false, iv x, iv z.N, iv z.D, iv 0, iv 0, iv 0, iv 0] 95)]⟩ (fun hJ17 => ?_) ?_
  ·refine zy [19,59,60,61,62,63,64,65,66,67,68,69,70,71,72,73,74,75,76,77,78,79,80] [0,0,2,0,8,24,0,64,192,448,960,1984,4032,0,0,24576,57344,0,0,393216,917504,2097151,0,8388607] mo ?_;(iterate 10 refine yl ?_);(iterate 2 refine ChM.gi ?_);(iterate 10 refine yl ?_);refine ChM.step rfl rfl rfl (zaW (k := 19) zc95) rfl ?_;refine y7 ?_;refine Ex.mo ?_;apply Ex.nil;exact X.imp yw hJ17
  refine ziq ⟨[(11, yg (mkC m l ch)), (12, zdS (mkA m l ch)), (14, tmsA (duV m l mi)), (15, .own 201), (18, iv ((itK l (mkC m l ch) (mkA m l ch) (duV m l mi) k).length : Int)), (19, .ptr 19 0 0 0), (47, sgsA l), (48, iv l.length), (49, iv (k : Int))], [(201, .row itE (itK l (mkC m l ch) (mkA m l ch) (duV m l mi) k) 95 12), (19, .box [iv k, iv s.Value, .bool (decide (s.Kind = 2)), .bool (decide (s.Kind = 1) && s.Color), .bool false, iv x, iv z.N, iv z.D, iv 0, iv 1, iv 0, iv 1] 95)]⟩ (fun hJ18 => ?_) ?_
  ·apply yc;(iterate 3 refine ya ?_);refine Ex.mo ?_;refine ya ?_;refine Ex.mo ?_;apply Ex.nil;exact X.imp yw hJ18
  apply yd;apply X.block;apply yd;apply X.block;apply yd;apply X.block;iterate 2 apply yd
  apply yb;refine ze ?_;refine yk rfl ?_ ?_<;>intro hc6
  ·rw [← zsh hc6] at hst;apply X.exit;apply yb;(iterate 3 refine ya ?_);refine yq (zdI z ⟨3, 2⟩) ?_;(iterate 4 refine ya ?_);refine Ex.mo ?_;refine ya ?_;apply yj;refine yh ?_;refine yk rfl ?_ ?_<;>intro hc7
   ·exact absurd hmul hc7
   apply yf;apply yb;refine ya ?_;refine Ex.mo ?_;apply Ex.nil;apply X.exit;apply yc;(iterate 2 refine ya ?_);refine y2 itE [itL k s true x (mulV z ⟨3, 2⟩)] ?_;refine Ex.mo ?_;refine ye ?_;apply yc;refine yh ?_;refine yP (k + 1)
  apply yf;apply yd;apply yb;refine yn ?_;refine yk rfl ?_ ?_<;>intro hc8
  ·apply yf;refine yk rfl ?_ ?_<;>intro hc9
   ·rw [← zmg hc6 (.inl hc8)] at hst;apply X.exit;apply yb;refine ya ?_;refine Ex.mo ?_;apply Ex.nil;apply X.exit;apply yc;(iterate 2 refine ya ?_);refine y2 itE [itL k s true x z] ?_;refine Ex.mo ?_;refine ye ?_;apply yc;refine yh ?_;refine yP (k + 1)
   exact absurd hc8 hc9
  ·apply yb;refine yn ?_;refine yk rfl ?_ ?_<;>intro hc10
   ·apply yf;refine yk rfl ?_ ?_<;>intro hc11
    ·rw [← zmg hc6 (.inr (.inl (by unfold clr; rw [decide_eq_true hc11.1, hc11.2]; rfl)))] at hst;apply X.exit;apply yb;refine ya ?_;refine Ex.mo ?_;apply Ex.nil;apply X.exit;apply yc;(iterate 2 refine ya ?_);refine y2 itE [itL k s true x z] ?_;refine Ex.mo ?_;refine ye ?_;apply yc;refine yh ?_;refine yP (k + 1)
    exact absurd hc11 (fun hc11 => hc11.elim (fun h => h hc10.1) (fun h => by rw [hc10.2] at h; cases h))
   ·apply yc;(iterate 5 refine ya ?_);refine ye ?_;refine yk rfl ?_ ?_<;>intro hc12
    ·rw [← zmg hc6 (.inr (.inr hc12))] at hst;apply X.exit;apply yb;refine ya ?_;refine Ex.mo ?_;apply Ex.nil;apply X.exit;apply yc;(iterate 2 refine ya ?_);refine y2 itE [itL k s true x z] ?_;refine Ex.mo ?_;refine ye ?_;apply yc;refine yh ?_;refine yP (k + 1)
    rw [← zsi hc6 hc8 (by unfold clr; rcases hc10 with h | h <;> simp [h]) hc12] at hst;apply yf;apply X.exit;apply yc;(iterate 2 refine ya ?_);refine y2 itE [itL k s false x z] ?_;refine Ex.mo ?_;refine ye ?_;apply yc;refine yh ?_;refine yP (k + 1)
 ·have hkl : k = l.length := by omega
  subst hkl;apply X.exit;apply yb;refine yn ?_;refine X.ret ?_;refine RetQ.imp (Imp.freeze (k := 201) rfl) ?_;refine yu ?_ ?_;all_goals (first | (rw [hV]; done) | (rw [hE]; done) | (rw [hV]; rfl) | (rw [hE]; rfl))
end Go.Rse
namespace Go.Rse
open Go Go.Proofs
attribute [local irreducible] Pur yx yz Ex X Fn Imp LeV LeB FnO It yC
attribute [local irreducible] mnsD zax ofV ofL ofE ofD cntE cntV ckD
end Go.Rse
namespace Go.Rse
open Go Go.Proofs
attribute [local irreducible] Pur yx yz Ex X Fn Imp LeV LeB FnO It yC
attribute [local irreducible] mkC mkA mkE duV duE itK itOf ckD mulV mulE
end Go.Rse
