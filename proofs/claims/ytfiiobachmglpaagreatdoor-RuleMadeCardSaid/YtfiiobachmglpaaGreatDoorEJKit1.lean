/-
  Walks: what statements share: comparisons of lists, lists in new memory, numbers made small, mensurations and times made of numbers.
-/
import Derived.Test.YtfiiobachmglpaaGreatDoorEJTime
import Derived.Test.YtfiiobachmglpaaGreatDoorEMens2
import Derived.Test.YtfiiobachmglpaaGreatDoorELogB
import Derived.Test.YtfiiobachmglpaaGreatDoorELogC
import Derived.Test.YtfiiobachmglpaaGreatDoorEIteA
import Derived.Test.YtfiiobachmglpaaGreatDoorEDotB
import Derived.Test.YtfiiobachmglpaaGreatDoorERefA
import Derived.Test.YtfiiobachmglpaaGreatDoorEDurA
set_option linter.unusedSimpArgs false
set_option linter.unusedVariables false
namespace Go.Rse
open Go Go.Proofs
attribute [local irreducible] Pur yM yO Ex X Fn Imp LeV LeB FnO It yW
theorem zh3 {α : Type} {a b : List α} {k : Nat} {x : α} (ha : a[k]? = some x) (hb : b[k]? = some x) (h : a.take k = b.take k) : a.take (k + 1) = b.take (k + 1) := by
 rw [List.take_add_one, List.take_add_one, ha, hb, h]
theorem zkV {α : Type} {a b : List α} {k : Nat} (hl : a.length = b.length) (hk : a.length <= k) (h : a.take k = b.take k) : a = b := by
 rwa [List.take_of_length_le hk, List.take_of_length_le (by omega)] at h
theorem zpP {α : Type} {a b : List α} {k : Nat} {x y : α} (ha : a[k]? = some x) (hb : b[k]? = some y) (h : x ≠ y) : a ≠ b := fun e => by
 subst e; rw [ha] at hb; injection hb with hb; exact h hb
def zgW : Sg := ⟨3, 0, 0, 0, false, 0, false, false, ⟨0, 0, 0, 0⟩, false, 0, 0, 0, 0⟩
theorem zmL {a n : Int} (hn : 0 < n) : (a.tmod n < 0 -> a.tmod n + n = a % n) /\ (¬ a.tmod n < 0 -> a.tmod n = a % n) /\ -n < a.tmod n /\ a.tmod n < n := by
 rw [Int.tmod_eq_emod];have h0 := Int.emod_nonneg a (show n ≠ 0 by omega);have h1 := Int.emod_lt_of_pos a hn;split <;> omega
def mMk (n : Int) : Mn := ⟨2 + n % 16 / 8, 2 + n % 16 / 4 % 2, 2 + n % 16 / 2 % 2, 2 + n % 16 % 2⟩
theorem zoa {l : List Int} {x : Int} (h : ∀ (i : Nat) u, i < l.length -> l[i]? = some u -> ¬ u = x) : ¬ x ∈ l := fun hx => by
 obtain ⟨i, hi⟩ := List.mem_iff_getElem?.1 hx;exact h i x (List.getElem?_eq_some_iff.1 hi).1 hi rfl
attribute [local irreducible] gI mMk
theorem zas (a b : List Int) (hl : a.length <= 4000000000) : Fn Tryz.prog 22 [yg a, yg b] (.bool (decide (a = b))) := by
 refine Fn.go Tryz.func22 Tryz.ntmps22 (fun g w d => ?_);apply yb;refine ye ?_;apply yd;apply yb;refine zb ?_;refine yj rfl ?_ ?_<;>intro hc1
 ·apply yb;refine ye ?_;refine X.ret ?_;refine ym ?_;all_goals (congr 1; exact (decide_eq_false fun e => by subst e; omega).symm)
 apply yf;apply yd;apply yb;refine ye ?_;apply X.block
 refine zd (ι := Nat) (fun (k : Nat) => [(0, yg a), (1, yg b), (5, iv (k : Int))]) (fun (k : Nat) => []) (fun (k : Nat) => k <= a.length /\ a.take k = b.take k) (fun (k : Nat) => a.length - k) 0 (fun k hk => ?_) (hJ := by
  exact ⟨by omega, rfl⟩)
 obtain ⟨hk1, hk2⟩ := hk;apply yd;apply yb;refine yY ?_;refine yj rfl ?_ ?_<;>intro hc2
 ·obtain ⟨x, hx⟩ : ∃ x, a[k]? = some x := ⟨_, lgg (by omega)⟩;have hx2 : a[(k : Int).toNat]? = some x := by simpa using hx
  obtain ⟨y, hy⟩ : ∃ y, b[k]? = some y := ⟨_, lgg (by omega)⟩;have hy2 : b[(k : Int).toNat]? = some y := by simpa using hy
  apply yf;apply yd;apply X.block;apply yd;refine zi [17,18,19,20,21,22,23,24,25] [0,0,3,7,0,0,48,112,255] mo ?_;iterate 9 refine yk ?_
  refine yT ?_;apply Ex.nil;refine yj rfl ?_ ?_<;>intro hc3
  ·apply yb;refine ye ?_;refine X.ret ?_;refine ym ?_;all_goals (congr 1; exact (decide_eq_false (zpP hx hy (by simpa using hc3))).symm)
  apply yf;apply yc;refine yp ?_
  refine yK (k + 1) (hJ := by
   exact ⟨by omega, zh3 hx (by rw [hy]; congr 1; first | exact (by simpa using hc3 : x = y).symm | (simp at hc3; exact hc3.symm)) hk2⟩)
 ·apply X.exit;apply yb;refine ye ?_;refine X.ret ?_;refine ym ?_;all_goals (congr 1; exact (decide_eq_true (zkV (by omega) (by omega) hk2)).symm)
theorem zbk (a b : List Tm) (hl : a.length <= 4000000000) : Fn Tryz.prog 41 [tmsA a, tmsA b] (.bool (decide (a = b))) := by
 refine Fn.go Tryz.func41 Tryz.ntmps41 (fun g w d => ?_);apply yb;refine ye ?_;apply yd;apply yb;refine zb ?_;refine yj rfl ?_ ?_<;>intro hc1
 ·apply yb;refine ye ?_;refine X.ret ?_;refine ym ?_;all_goals (congr 1; exact (decide_eq_false fun e => by subst e; omega).symm)
 apply yf;apply yd;apply yb;refine ye ?_;apply X.block
 refine zd (ι := Nat) (fun (k : Nat) => [(0, tmsA a), (1, tmsA b), (5, iv (k : Int))]) (fun (k : Nat) => []) (fun (k : Nat) => k <= a.length /\ a.take k = b.take k) (fun (k : Nat) => a.length - k) 0 (fun k hk => ?_) (hJ := by
  exact ⟨by omega, rfl⟩)
 obtain ⟨hk1, hk2⟩ := hk;apply yd;apply yb;refine yY ?_;refine yj rfl ?_ ?_<;>intro hc2
 ·obtain ⟨x, hx⟩ : ∃ x, a[k]? = some x := ⟨_, lgg (by omega)⟩;have hx2 : a[(k : Int).toNat]? = some x := by simpa using hx
  obtain ⟨y, hy⟩ : ∃ y, b[k]? = some y := ⟨_, lgg (by omega)⟩;have hy2 : b[(k : Int).toNat]? = some y := by simpa using hy
  apply yf;apply yd;apply X.block;apply yd;refine zi [17,18,19,20,21,22,23,24,25] [0,0,3,7,0,0,48,112,255] mo ?_;iterate 9 refine yk ?_
  refine yT ?_;apply Ex.nil;refine yj rfl ?_ ?_<;>intro hc3
  ·apply yb;refine ye ?_;refine X.ret ?_;refine ym ?_;all_goals (congr 1; exact (decide_eq_false (zpP hx hy (by simpa using hc3))).symm)
  apply yf;apply yc;refine yp ?_
  refine yK (k + 1) (hJ := by
   exact ⟨by omega, zh3 hx (by rw [hy]; congr 1; first | exact (by simpa using hc3 : x = y).symm | (simp at hc3; exact hc3.symm)) hk2⟩)
 ·apply X.exit;apply yb;refine ye ?_;refine X.ret ?_;refine ym ?_;all_goals (congr 1; exact (decide_eq_true (zkV (by omega) (by omega) hk2)).symm)
theorem zdf (a n : Int) (ha : -9223372036854775808 <= a /\ a <= 9223372036854775807) (hn : 1 <= n /\ n <= 4611686018427387904) : Fn Tryz.prog 45 [iv a, iv n] (iv (a % n)) := by
 obtain ⟨ht1, ht2, ht3, ht4⟩ := zmL (a := a) (n := n) (by omega);refine Fn.go Tryz.func45 Tryz.ntmps45 (fun g w d => ?_);apply yb;refine ye ?_;apply yd;apply yb;refine yh ?_;refine yj rfl ?_ ?_<;>intro hc1
 ·omega
 apply yf;apply yb;iterate 2 refine ya ?_
 refine za9 (zp2 rfl rfl (by omega)) rfl ?_;refine ye ?_;apply yd;apply yb;refine yh ?_;refine yj rfl ?_ ?_<;>intro hc2
 ·apply yc;iterate 4 refine ya ?_
  apply yn;refine yh ?_;refine X.ret ?_;refine ym ?_;all_goals (congr 1; exact ht1 (by omega))
 ·apply yf;apply yb;refine yh ?_;refine X.ret ?_;refine ym ?_;all_goals (congr 1; exact ht2 (by omega))
theorem zfP (n : Int) (hn : -9223372036854775808 <= n /\ n <= 9223372036854775807) : Fn Tryz.prog 24 [iv n] (mnA (mMk n)) := by
 unfold mMk;refine Fn.go Tryz.func24 Tryz.ntmps24 (fun g w d => ?_);apply yb;refine yI ?_;apply yn;refine ya ?_;refine yr (zdf n 16 hn (by omega)) ?_;refine ya ?_;apply yn;iterate 15 refine ya ?_
 refine yi ?_;apply Ex.nil;refine X.ret ?_;refine RetQ.ret (.one (.cellA rfl rfl rfl rfl ty23 (LeV.eq ?_)));all_goals (first | rfl | (simp_all; done))
theorem zfb (m : Mn) (v : Int) : Fn Tryz.prog 139 [mnA m, iv v] (iv (m.p v)) := by
 refine Fn.go Tryz.func139 Tryz.ntmps139 (fun g w d => ?_);apply yb;refine yH ?_;refine ye ?_;apply yd;apply yb;refine ye ?_;apply X.block;apply yb;refine yh ?_;refine yj rfl ?_ ?_<;>intro hc1
 ·apply yb;refine yp ?_;refine X.ret ?_;refine ym ?_;all_goals (congr 1; unfold Mn.p; simp [*])
 apply yb;refine yh ?_;refine yj rfl ?_ ?_<;>intro hc2
 ·apply yb;refine yp ?_;refine X.ret ?_;refine ym ?_;all_goals (congr 1; unfold Mn.p; simp [*])
 apply yb;refine yh ?_;refine yj rfl ?_ ?_<;>intro hc3
 ·apply yb;refine yp ?_;refine X.ret ?_;refine ym ?_;all_goals (congr 1; unfold Mn.p; simp [*])
 apply yb;refine yh ?_;refine yj rfl ?_ ?_<;>intro hc4
 ·apply yb;refine yp ?_;refine X.ret ?_;refine ym ?_;all_goals (congr 1; unfold Mn.p; simp [*])
 apply yf;apply yb;refine ye ?_;refine X.ret ?_;refine ym ?_;all_goals (congr 1; unfold Mn.p; simp [*])
theorem zhJ (n q : Int) (hn : 0 <= n /\ n <= 4611686018427387904) (hd : 1 <= q /\ q <= 4611686018427387904) : Fn Tryz.prog 116 [iv n, iv q] (tmA ⟨n / gI n q, q / gI n q⟩) := by
 refine Fn.go Tryz.func116 Tryz.ntmps116 (fun g w d => ?_);apply yb;refine yI ?_;apply yn;refine yY ?_;apply yd;apply X.block
 refine zd (ι := Int × Int) (fun (p : Int × Int) => [(0, iv n), (1, iv q), (4, .ptr 4 0 0 0), (5, iv p.1), (6, iv p.2)]) (fun (p : Int × Int) => [(4, .box [iv 0, iv 0] 60)]) (fun (p : Int × Int) => 0 <= p.1 /\ 0 <= p.2 /\ gI p.1 p.2 = gI n q /\ (0 < p.1 \/ 0 < p.2)) (fun (p : Int × Int) => p.2.toNat) (n, q) (fun p hk => ?_) (hJ := by
  exact ⟨by dsimp only; omega, by dsimp only; omega, rfl, by dsimp only; omega⟩)
 obtain ⟨a, b⟩ := p;obtain ⟨k1, k2, k3, k4⟩ := hk;dsimp only at *
 apply yd;apply yb;refine yh ?_;refine yj rfl ?_ ?_<;>intro hc1
 ·apply yf;apply X.block;apply yb;iterate 4 refine ya ?_
  apply yn;refine yh ?_;apply yc;refine yh ?_
  refine yK ((b, a % b)) (hJ := by
   exact ⟨by dsimp only; omega, by dsimp only; exact Int.emod_nonneg _ (by omega), by dsimp only; rw [ziS (by omega) (by omega)]; exact k3, by dsimp only; omega⟩) (hm := by dsimp only; have := Int.emod_lt_of_pos a (show 0 < b by omega); omega)
 ·have hb0 : b = 0 := by omega
  subst hb0;rw [ziR k1] at k3;subst k3;have hgp := zbY (n := n) (d := q) (by omega);apply X.exit;apply yd;apply yb;refine yh ?_;refine yj rfl ?_ ?_<;>intro hc2
  ·omega
  apply yf;apply yd;refine zi [20,21,22,23,24,25] [0,0,3,0,0,24,63,127] mo ?_;iterate 6 refine yk ?_
  refine yT ?_;refine ya ?_;refine yi ?_;apply Ex.nil;refine X.ret ?_;refine RetQ.ret (.one (.cellA rfl rfl rfl rfl ty60 (LeV.eq ?_)));all_goals (rfl)
end Go.Rse
namespace Go.Rse
open Go Go.Proofs
end Go.Rse
namespace Go.Rse
open Go Go.Proofs
end Go.Rse
namespace Go.Rse
open Go Go.Proofs
section
variable {m : Mn} {l : List Sg} {a b d g : List Int} {k : Nat} {s : Sg}
end
end Go.Rse
namespace Go.Rse
open Go Go.Proofs
inductive ChG : List (List Int) -> List Int -> Prop
 | nil : ChG [] []
 | snoc {x : List Int} {R : List (List Int)} {r : List Int} {v : Int} (hv : v ∈ x) (h : ChG R r) : ChG (x :: R) (r ++ [v])
theorem zpQ {L : List (List Int)} {c : List Int} (hl : L.length = c.length) (h : ∀ (i : Nat) x v, L[i]? = some x -> c[i]? = some v -> v ∈ x) : ∀ k, k <= L.length -> ChG (L.take k).reverse (c.take k)
 | 0, _ => by simpa using ChG.nil
 | k + 1, hk => by
  have hx : L[k]? = some L[k] := lgg (by omega);have hv : c[k]? = some c[k] := lgg (by omega);rw [List.take_add_one, List.take_add_one, hx, hv];simp only [Option.toList_some, List.reverse_append, List.reverse_cons, List.reverse_nil, List.nil_append, List.cons_append];exact .snoc (h k _ _ hx hv) (zpQ hl h k (by omega))
theorem zqu {R : List (List Int)} {r : List Int} (hc : ChG R r) : r.length = R.length /\ ∀ (i : Nat) x v, R.reverse[i]? = some x -> r[i]? = some v -> v ∈ x := by
 induction hc with
 | nil => exact ⟨rfl, fun i x v h => by simp at h⟩
 | @snoc x0 R r v0 hv _ ih =>
  refine ⟨by simp [ih.1], fun i x v hx hvv => ?_⟩;rw [List.reverse_cons, List.getElem?_append] at hx;rw [List.getElem?_append] at hvv;simp only [List.length_reverse] at hx;by_cases hi : i < R.length
  ·rw [if_pos hi] at hx;rw [if_pos (by omega)] at hvv;exact ih.2 i x v hx hvv
  ·rw [if_neg hi] at hx;rw [if_neg (by omega)] at hvv
   have e1 : i - R.length = 0 := by
    have := (List.getElem?_eq_some_iff.1 hx).1;simp at this; omega
   rw [e1] at hx;rw [ih.1, e1] at hvv;simp at hx hvv;subst hx; subst hvv; exact hv
theorem zr4 {L : List (List Int)} {r : List Int} (hc : ChG L.reverse r) : L.length = r.length /\ chOk r L := by
 obtain ⟨h1, h2⟩ := zqu hc;rw [List.reverse_reverse] at h2;exact ⟨by simpa using h1.symm, zdA.2 h2⟩
def zpR (x : List Int) (c : Int) : Prop := (∃ a, x = [a] /\ c = a) \/ (∃ a b, x = [a, b] /\ a < b /\ (c = a \/ c = b))
theorem zjx {m : Mn} {l : List Sg} {i : Int} {p : Sg} (hM : ckM m = 0) (h1 : 1 <= p.Value) : zpR (mngR m p) (zaO m l i p) := by
 have ha := zkP (m := m) h1;unfold zaO mngR;by_cases hK : p.Kind = 2
 ·simp only [hK, if_true]; exact .inl ⟨_, rfl, by simp⟩
 ·simp only [hK, if_false];by_cases hC : p.Color = true
  ·simp only [hC, if_true]; exact .inl ⟨0, rfl, by simp⟩
  ·simp only [hC, if_false];by_cases h2 : m.p p.Value = 2 /\ m.aV p.Value = 0
   ·simp only [h2, and_self, if_true]; exact .inl ⟨0, rfl, by simp⟩
   ·rw [if_neg h2];by_cases h3 : m.p p.Value = 2
    ·have h4 : ¬ m.aV p.Value = 0 := fun h => h2 ⟨h3, h⟩
     rw [if_pos h3];refine .inr ⟨0, m.aV p.Value, rfl, by omega, ?_⟩;rw [if_neg (by simp)];by_cases h5 : zdy l i > p.Value
     ·rw [if_pos h5]; exact .inl (by simp [ownV])
     ·rw [if_neg h5]; exact .inr rfl
    ·rw [if_neg h3];by_cases h4 : m.aV p.Value = 0
     ·rw [if_pos h4]; exact .inl ⟨p.Value, rfl, by simp⟩
     ·rw [if_neg h4];refine .inr ⟨m.aV p.Value, p.Value, rfl, ha.2, ?_⟩;rw [if_neg (by simp)];by_cases h5 : zdy l i > p.Value
      ·rw [if_pos h5];have h6 : ¬ m.aV p.Value = p.Value := by omega
       exact .inr (by simp [ownV, h4, h6])
      ·rw [if_neg h5]; exact .inl rfl
theorem zqv {m : Mn} {l : List Sg} (hM : ckM m = 0) (hck : ckD m l = 0) {k : Nat} {x : List Int} {c : Int} (hx : (mnsD m l)[k]? = some x) (hc : (zl m l)[k]? = some c) : zpR x c := by
 rw [mnsD, List.getElem?_map] at hx;rw [zl, List.getElem?_map] at hc;cases hd : (yU l l.length)[k]? with
 | none => simp [hd] at hx
 | some i =>
  simp [hd] at hx hc;obtain ⟨j, s, p, h1, h2, h3, h4, h5⟩ := zjh hck (List.mem_of_getElem? hd);obtain ⟨_, _, q1, q2, _, q3⟩ := zjg hck h2 h3 h4;unfold mnAt at hx; rw [h5] at hx;unfold zcs at hc; rw [h5] at hc;have hx : mngs m p = x := hx;have hc : zaG m l i p = c := hc;rw [← hx, ← hc, zkd hM q1 q2 q3, q3];exact zjx hM q1
theorem zfc (m : Mn) (l : List Sg) : (zl m l).length = (mnsD m l).length := by
 unfold zl mnsD; simp
theorem zob {m : Mn} {l : List Sg} (hM : ckM m = 0) (hg : ckD m l = 0) : ChG (mnsD m l).reverse (zl m l) := by
 have hlen := zfc m l
 have h := zpQ (L := mnsD m l) (c := zl m l) hlen.symm (fun i x v hx hv => by
  rcases zqv hM hg hx hv with ⟨a, rfl, rfl⟩ | ⟨a, b, rfl, hab, rfl | rfl⟩ <;> simp) (mnsD m l).length (Nat.le_refl _)
 rwa [List.take_length, ← hlen, List.take_length] at h
end Go.Rse
namespace Go.Rse
open Go Go.Proofs
theorem zoc (m : Mn) (l : List Sg) : (mnsD m l).length <= l.length := by
 unfold mnsD; rw [List.length_map]; exact zaX l l.length
end Go.Rse
namespace Go.Rse
open Go Go.Proofs
def abvK (m : Mn) (v : Int) : Bool := (decide (1 < v) && decide (m.p 1 = 3)) || (decide (2 < v) && decide (m.p 2 = 3)) || (decide (3 < v) && decide (m.p 3 = 3)) || (decide (4 < v) && decide (m.p 4 = 3))
theorem zmM {m : Mn} {v k : Int} (h1 : 1 <= k) (h2 : k < v) (h3 : m.p k = 3) : abvK m v = true := by
 have h4 : k <= 4 := by
  rcases Int.lt_or_le 4 k with h | h
  ·rw [zmO h] at h3; omega
  ·exact h
 have : k = 1 \/ k = 2 \/ k = 3 \/ k = 4 := by omega
 unfold abvK;rcases this with rfl | rfl | rfl | rfl <;> simp [h2, h3]
theorem zod {m : Mn} {v : Int} (h : ∀ k, 1 <= k -> k < v -> ¬ m.p k = 3) : abvK m v = false := by
 unfold abvK
 have e : ∀ k : Int, 1 <= k -> (decide (k < v) && decide (m.p k = 3)) = false := fun k hk => by
  by_cases h2 : k < v
  ·rw [decide_eq_false (h k hk h2)]; simp
  ·rw [decide_eq_false h2]; rfl
 rw [e 1 (by omega), e 2 (by omega), e 3 (by omega), e 4 (by omega)]; rfl
def rnV (n : Int) : Int := ([3, 4, 4, 5, 5, 3, 2, 6] : List Int).getD (n % 8).toNat 0
theorem zoe : ∀ k : Fin 8, 2 <= ([3, 4, 4, 5, 5, 3, 2, 6] : List Int).getD k.val 0 /\ ([3, 4, 4, 5, 5, 3, 2, 6] : List Int).getD k.val 0 <= 6 := by decide
theorem zof (n : Int) : 2 <= rnV n /\ rnV n <= 6 := zoe ⟨(n % 8).toNat, by omega⟩
def rnS (i : Nat) (n : Int) : Sg := if n / 8 % 9 = 0 then ⟨2, rnV n, 0, 0, false, 0, false, false, ⟨0, 0, 0, 0⟩, false, 0, 0, 0, 0⟩
 else ⟨1, rnV n, (i : Int) % 9, 0, decide (n / 8 % 9 = 1) || decide (n / 8 % 9 = 2), 0, false, false, ⟨0, 0, 0, 0⟩, false, 0, 0, 0, 0⟩
def rnK (m : Mn) (nums : List Int) (most : Int) : Nat -> List Sg
 | 0 => []
 | k + 1 => match nums[k]? with
  | some x => if ((rnK m nums most k).length : Int) < most then
   (if x % 504 / 72 = 0 /\ ((rnK m nums most k).length : Int) + 1 < most /\ ((rnS k (x % 504)).Kind = 1 \/ abvK m (rnS k (x % 504)).Value = true)
    then rnK m nums most k ++ [rnS k (x % 504)] ++ [zgW] else rnK m nums most k ++ [rnS k (x % 504)]) else rnK m nums most k
  | none => rnK m nums most k
def rnL (m : Mn) (nums : List Int) (most : Int) : List Sg := rnK m nums most nums.length
theorem zog {m : Mn} {nums : List Int} {most : Int} {k : Nat} {x : Int} (hx : nums[k]? = some x) (h : ((rnK m nums most k).length : Int) < most) (hd : x % 504 / 72 = 0 /\ ((rnK m nums most k).length : Int) + 1 < most) (hk : (rnS k (x % 504)).Kind = 1 \/ abvK m (rnS k (x % 504)).Value = true) : rnK m nums most k ++ [rnS k (x % 504)] ++ [zgW] = rnK m nums most (k + 1) := by
 conv => rhs; unfold rnK
 rw [hx]; simp only [if_pos h, if_pos (show _ /\ _ /\ _ from ⟨hd.1, hd.2, hk⟩)]
theorem zoh {m : Mn} {nums : List Int} {most : Int} {k : Nat} {x : Int} (hx : nums[k]? = some x) (h : ((rnK m nums most k).length : Int) < most) (hd : ¬ (x % 504 / 72 = 0 /\ ((rnK m nums most k).length : Int) + 1 < most /\ ((rnS k (x % 504)).Kind = 1 \/ abvK m (rnS k (x % 504)).Value = true))) : rnK m nums most k ++ [rnS k (x % 504)] = rnK m nums most (k + 1) := by
 conv => rhs; unfold rnK
 rw [hx]; simp only [if_pos h, if_neg hd]
theorem zjy {m : Mn} {nums : List Int} {most : Int} {k : Nat} (h : most <= ((rnK m nums most k).length : Int)) : ∀ d, rnK m nums most (k + d) = rnK m nums most k
 | 0 => rfl
 | d + 1 => by
  show rnK m nums most ((k + d) + 1) = _;have ih := zjy h d;conv => lhs; unfold rnK
  rw [ih];split
  ·rw [if_neg (by omega)]
  ·rfl
theorem ziK (m : Mn) (nums : List Int) {most : Int} (h0 : 0 <= most) : ∀ k, ((rnK m nums most k).length : Int) <= most
 | 0 => h0
 | k + 1 => by
  have := ziK m nums h0 k;unfold rnK;split
  ·split
   ·split <;> simp <;> omega
   ·exact this
  ·exact this
theorem zoi (m : Mn) (nums : List Int) {most : Int} (h0 : 0 <= most) : ((rnL m nums most).length : Int) <= most := ziK m nums h0 _
theorem zqw {m : Mn} {nums : List Int} {most : Int} {k : Nat} (hk : k <= nums.length) (h : (nums.length : Int) <= k \/ most <= ((rnK m nums most k).length : Int)) : rnK m nums most k = rnL m nums most := by
 unfold rnL;rcases h with h | h
 ·have : k = nums.length := by omega
  rw [this]
 ·have := zjy h (nums.length - k);rw [show k + (nums.length - k) = nums.length by omega] at this;exact this.symm
theorem zoj (n : Int) : ([3, 4, 4, 5, 5, 3, 2, 6] : List Int)[(n % 8).toNat]? = some (rnV n) := by
 unfold rnV;rw [List.getD_eq_getElem?_getD, lgg (by simp; omega)]; rfl
theorem zfd {m : Mn} {nums : List Int} {most : Int} {k : Nat} {x : Int} {s : Sg} (hS : rnS k (x % 504) = s) (hx : nums[k]? = some x) (h : ((rnK m nums most k).length : Int) < most) (hd : (x % 504 / 72 = 0 /\ ((rnK m nums most k ++ [s]).length : Int) < most) /\ (s.Kind = 1 \/ abvK m s.Value = true)) : rnK m nums most k ++ [s] ++ [zgW] = rnK m nums most (k + 1) := by
 subst hS;exact zog hx h ⟨hd.1.1, by have := hd.1.2; simp at this; omega⟩ hd.2
theorem zfe {m : Mn} {nums : List Int} {most : Int} {k : Nat} {x : Int} {s : Sg} (hS : rnS k (x % 504) = s) (hx : nums[k]? = some x) (h : ((rnK m nums most k).length : Int) < most) (hd : (¬ x % 504 / 72 = 0 \/ most <= ((rnK m nums most k ++ [s]).length : Int)) \/ (¬ s.Kind = 1 /\ abvK m s.Value = false)) : rnK m nums most k ++ [s] = rnK m nums most (k + 1) := by
 subst hS;refine zoh hx h fun e => ?_
 rcases hd with (h1 | h1) | h1
 ·exact h1 e.1
 ·simp at h1; omega
 ·rcases e.2.2 with h2 | h2
  ·exact h1.1 h2
  ·rw [h1.2] at h2; exact absurd h2 (by decide)
end Go.Rse
namespace Go.Rse
open Go Go.Proofs
end Go.Rse
namespace Go.Rse
open Go Go.Proofs
theorem zkW {m : Mn} {l : List Sg} (hM : ckM m = 0) (hck : ckD m l = 0) : mkE m l (zl m l) = 0 := by
 unfold mkE; rw [if_pos hck, if_pos (zr4 (zob hM hck))]
theorem zkX {m : Mn} {l : List Sg} (hck : ckD m l = 0) : duE m l (twos (prL m l).length) = 0 := by
 unfold duE;rw [if_pos hck, if_pos ⟨zbx _, by unfold mnOk twos; rw [List.all_eq_true]; intro x hx; rw [(List.mem_replicate.1 hx).2]; rfl⟩]
end Go.Rse
namespace Go.Rse
open Go Go.Proofs
attribute [local irreducible] Pur yM yO Ex X Fn Imp LeV LeB FnO It yW
attribute [local irreducible] mkC mkA mkE duV duE itK itOf ckD mulV mulE
set_option maxHeartbeats 4000000 in
theorem ziL (m : Mn) (l : List Sg) (ch mi : List Int) (hl : l.length <= 1000) (hmi : mi.length <= 1000) : Fn Tryz.prog 33 [mnA m, sgsA l, yg ch, yg mi] (.tup [itsA (itmV m l ch mi), iv (itmE m l ch mi)]) := by
 refine Fn.go Tryz.func33 Tryz.ntmps33 (fun g w d => ?_);apply yb;refine yH ?_;refine yh ?_;apply yd;apply yb;iterate 2 refine ya ?_
 refine yr (zcj m l hl) ?_;refine ya ?_;apply yn;refine yh ?_;refine yj rfl ?_ ?_<;>intro hc1
 ·have hE : itmE m l ch mi = ckD m l := by rw [zkn (by rw [zkm hc1]; exact hc1), zkm hc1]
  have hV : itmV m l ch mi = [] := zgV (by rw [hE]; exact hc1);apply yb;refine yp ?_;refine X.ret ?_;refine yu (yl (ts := [(8, itsA []), (9, iv (ckD m l))]) (hs := [])) ?_;refine yA ?_ ?_;all_goals (first | (rw [hV]; done) | (rw [hE]; done) | (rw [hV]; rfl) | (rw [hE]; rfl))
 apply yf;apply yb;iterate 3 refine ya ?_
 refine yr (zjt m l hl ch) ?_;iterate 6 refine ya ?_
 refine ye ?_;apply yd;apply yb;refine yh ?_;refine yj rfl ?_ ?_<;>intro hc2
 ·have hE : itmE m l ch mi = mkE m l ch := zkn hc2;have hV : itmV m l ch mi = [] := zgV (by rw [hE]; exact hc2);apply yb;refine yp ?_;refine X.ret ?_;refine yu (yl (ts := [(8, itsA []), (9, iv (mkE m l ch))]) (hs := [])) ?_;refine yA ?_ ?_;all_goals (first | (rw [hV]; done) | (rw [hE]; done) | (rw [hV]; rfl) | (rw [hE]; rfl))
 apply yf;apply yb;iterate 3 refine ya ?_
 refine yr (ziD m l mi hl hmi) ?_;refine zb ?_;apply yd;apply yb;refine yh ?_;refine yj rfl ?_ ?_<;>intro hc3
 ·have hE : itmE m l ch mi = duE m l mi := ziJ hc2;have hV : itmV m l ch mi = [] := zgV (by rw [hE]; exact hc3);apply yb;refine yp ?_;refine X.ret ?_;refine yu (yl (ts := [(8, itsA []), (9, iv (duE m l mi))]) (hs := [])) ?_;refine yA ?_ ?_;all_goals (first | (rw [hV]; done) | (rw [hE]; done) | (rw [hV]; rfl) | (rw [hE]; rfl))
 have hE : itmE m l ch mi = 0 := (ziJ hc2).trans hc3;have hV := zko hE;apply yf;apply yb;refine ye ?_;iterate 2 apply yd
 refine y2 (yZ itE 62 12 15 201 rfl rfl) ?_;apply yc;refine yp ?_;apply X.block;have hr0 := zpM l (mkC m l ch) (mkA m l ch) (duV m l mi);refine zd (ι := Nat) (fun (k : Nat) => [(11, yg (mkC m l ch)), (12, zbd (mkA m l ch)), (14, tmsA (duV m l mi)), (15, .own 201), (47, sgsA l), (48, iv l.length), (49, iv (k : Int))]) (fun (k : Nat) => [(201, .row itE (itK l (mkC m l ch) (mkA m l ch) (duV m l mi) k) 62 12)]) (fun (k : Nat) => k <= l.length) (fun (k : Nat) => l.length - k) 0 (fun k hk => ?_);apply yb;refine ye ?_;apply yd;refine yj rfl ?_ ?_<;>intro hc4
 ·obtain ⟨s, hs⟩ : ∃ s, l[k]? = some s := ⟨_, lgg (by omega)⟩;have hs2 : l[(k : Int).toNat]? = some s := by simpa using hs
  have hnt := ziI l (mkC m l ch) (mkA m l ch) (duV m l mi) k;have hnl := ziG l k;apply yf;apply yd;apply X.block;apply yb;iterate 3 refine ya ?_
  refine yI ?_;refine ya ?_;refine yi ?_;apply Ex.nil;apply yd;apply yb;refine yp ?_;refine yj rfl ?_ ?_<;>intro hc5
  ·have hst := ziH (c := mkC m l ch) (a := mkA m l ch) (d := duV m l mi) hs hc5;apply X.exit;apply yc;refine yh ?_;refine yK (k + 1)
  obtain ⟨x, y, z, hx, hy, hz, hmul, hlt, hm, v1, v8⟩ := zpO hc2 hc3 hs hc5;have hst := zmG hs hc5 hx hy hz;have hx2 : (mkC m l ch)[((itK l (mkC m l ch) (mkA m l ch) (duV m l mi) k).length : Int).toNat]? = some x := by rw [hnt]; simpa using hx
  have hy2 : (mkA m l ch)[((itK l (mkC m l ch) (mkA m l ch) (duV m l mi) k).length : Int).toNat]? = some y := by rw [hnt]; simpa using hy
  have hz2 : (duV m l mi)[((itK l (mkC m l ch) (mkA m l ch) (duV m l mi) k).length : Int).toNat]? = some z := by rw [hnt]; simpa using hz
  apply yf;apply yb;refine yp ?_;refine zc0 ⟨[(11, yg (mkC m l ch)), (12, zbd (mkA m l ch)), (14, tmsA (duV m l mi)), (15, .own 201), (18, iv ((itK l (mkC m l ch) (mkA m l ch) (duV m l mi) k).length : Int)), (19, .ptr 19 0 0 0), (47, sgsA l), (48, iv l.length), (49, iv (k : Int))], [(201, .row itE (itK l (mkC m l ch) (mkA m l ch) (duV m l mi) k) 62 12), (19, .box [iv k, iv s.Value, .bool (decide (s.Kind = 2)), .bool (decide (s.Kind = 1) && s.Color), .bool false, iv x, iv z.N, iv z.D, iv 0, iv 0, iv 0, iv 0] 62)]⟩ (fun hJ17 => ?_) ?_
  ·refine zi [19,59,60,61,62,63,64,65,66,67,68,69,70,71,72,73,74,75,76,77,78,79,80] [0,0,2,0,8,24,0,64,192,448,960,1984,4032,0,0,24576,57344,0,0,393216,917504,2097151,0,8388607] mo ?_;(iterate 10 refine yk ?_);(iterate 2 refine ChM.gi ?_);(iterate 10 refine yk ?_);refine ChM.step rfl rfl rfl (zy (k := 19) zc62) rfl ?_;refine yT ?_;refine yi ?_;apply Ex.nil;exact y2 yx hJ17
  refine zc0 ⟨[(11, yg (mkC m l ch)), (12, zbd (mkA m l ch)), (14, tmsA (duV m l mi)), (15, .own 201), (18, iv ((itK l (mkC m l ch) (mkA m l ch) (duV m l mi) k).length : Int)), (19, .ptr 19 0 0 0), (47, sgsA l), (48, iv l.length), (49, iv (k : Int))], [(201, .row itE (itK l (mkC m l ch) (mkA m l ch) (duV m l mi) k) 62 12), (19, .box [iv k, iv s.Value, .bool (decide (s.Kind = 2)), .bool (decide (s.Kind = 1) && s.Color), .bool false, iv x, iv z.N, iv z.D, iv 0, iv 1, iv 0, iv 1] 62)]⟩ (fun hJ18 => ?_) ?_
  ·apply yc;(iterate 3 refine ya ?_);refine yi ?_;refine ya ?_;refine yi ?_;apply Ex.nil;exact y2 yx hJ18
  apply yd;apply X.block;apply yd;apply X.block;apply yd;apply X.block;iterate 2 apply yd
  apply yb;refine zb ?_;refine yj rfl ?_ ?_<;>intro hc6
  ·rw [← zr2 hc6] at hst;apply X.exit;apply yb;(iterate 3 refine ya ?_);refine yr (zeR z ⟨3, 2⟩) ?_;(iterate 4 refine ya ?_);refine yi ?_;refine ya ?_;apply yn;refine yh ?_;refine yj rfl ?_ ?_<;>intro hc7
   ·exact absurd hmul hc7
   apply yf;apply yb;refine ya ?_;refine yi ?_;apply Ex.nil;apply X.exit;apply yc;(iterate 2 refine ya ?_);refine yL itE [itL k s true x (mulV z ⟨3, 2⟩)] ?_;refine yi ?_;refine ye ?_;apply yc;refine yh ?_;refine yK (k + 1)
  apply yf;apply yd;apply yb;refine yp ?_;refine yj rfl ?_ ?_<;>intro hc8
  ·apply yf;refine yj rfl ?_ ?_<;>intro hc9
   ·rw [← zmK hc6 (.inl hc8)] at hst;apply X.exit;apply yb;refine ya ?_;refine yi ?_;apply Ex.nil;apply X.exit;apply yc;(iterate 2 refine ya ?_);refine yL itE [itL k s true x z] ?_;refine yi ?_;refine ye ?_;apply yc;refine yh ?_;refine yK (k + 1)
   exact absurd hc8 hc9
  ·apply yb;refine yp ?_;refine yj rfl ?_ ?_<;>intro hc10
   ·apply yf;refine yj rfl ?_ ?_<;>intro hc11
    ·rw [← zmK hc6 (.inr (.inl (by unfold clr; rw [decide_eq_true hc11.1, hc11.2]; rfl)))] at hst;apply X.exit;apply yb;refine ya ?_;refine yi ?_;apply Ex.nil;apply X.exit;apply yc;(iterate 2 refine ya ?_);refine yL itE [itL k s true x z] ?_;refine yi ?_;refine ye ?_;apply yc;refine yh ?_;refine yK (k + 1)
    exact absurd hc11 (fun hc11 => hc11.elim (fun h => h hc10.1) (fun h => by rw [hc10.2] at h; cases h))
   ·apply yc;(iterate 5 refine ya ?_);refine ye ?_;refine yj rfl ?_ ?_<;>intro hc12
    ·rw [← zmK hc6 (.inr (.inr hc12))] at hst;apply X.exit;apply yb;refine ya ?_;refine yi ?_;apply Ex.nil;apply X.exit;apply yc;(iterate 2 refine ya ?_);refine yL itE [itL k s true x z] ?_;refine yi ?_;refine ye ?_;apply yc;refine yh ?_;refine yK (k + 1)
    rw [← zr3 hc6 hc8 (by unfold clr; rcases hc10 with h | h <;> simp [h]) hc12] at hst;apply yf;apply X.exit;apply yc;(iterate 2 refine ya ?_);refine yL itE [itL k s false x z] ?_;refine yi ?_;refine ye ?_;apply yc;refine yh ?_;refine yK (k + 1)
 ·have hkl : k = l.length := by omega
  subst hkl;apply X.exit;apply yb;refine yp ?_;refine X.ret ?_;refine yu (Imp.freeze (k := 201) rfl) ?_;refine yA ?_ ?_;all_goals (first | (rw [hV]; done) | (rw [hE]; done) | (rw [hV]; rfl) | (rw [hE]; rfl))
end Go.Rse
