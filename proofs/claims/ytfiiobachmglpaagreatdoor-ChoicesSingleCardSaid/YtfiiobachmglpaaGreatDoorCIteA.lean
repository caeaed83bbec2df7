/-
  Plain: items of a run under chosen meanings.
  Plain: combinations of the meanings of dots and of pairs.
-/
import Derived.Test.YtfiiobachmglpaaGreatDoorCDotB
import Derived.Test.YtfiiobachmglpaaGreatDoorCDurA
import Derived.Test.YtfiiobachmglpaaGreatDoorCColB
set_option linter.unusedSimpArgs false
set_option linter.unusedVariables false
namespace Go.Rse
open Go Go.Proofs
structure Ite where
 Sign : Int
 Value : Int
 Rest : Bool
 Color : Bool
 Fixed : Bool
 Cut : Int
 Dur : Tm
 Before : Tm
 After : Tm
 deriving DecidableEq
instance : Inhabited Ite := ⟨⟨0, 0, false, false, false, 0, ⟨0, 0⟩, ⟨0, 0⟩, ⟨0, 0⟩⟩⟩
def itE : Ite -> List AV := fun x => [.int .i64 x.Sign, .int .i64 x.Value, .bool x.Rest, .bool x.Color, .bool x.Fixed, .int .i64 x.Cut, .int .i64 x.Dur.N, .int .i64 x.Dur.D, .int .i64 x.Before.N, .int .i64 x.Before.D, .int .i64 x.After.N, .int .i64 x.After.D]
abbrev itA (x : Ite) : AV := .agg (itE x)
abbrev itsA (l : List Ite) : AV := .sl itE l
instance : EncK itE 12 := ⟨fun _ => rfl⟩
def ntN (l : List Sg) : Nat -> Nat
 | 0 => 0
 | k + 1 => match l[k]? with
  | some s => if s.Kind = 3 then ntN l k else ntN l k + 1
  | none => ntN l k
theorem ntN_dot {l : List Sg} {k : Nat} {s : Sg} (hs : l[k]? = some s) (h : s.Kind = 3) : ntN l (k + 1) = ntN l k := by
 simp only [ntN, hs, if_pos h]
theorem ntN_nr {l : List Sg} {k : Nat} {s : Sg} (hs : l[k]? = some s) (h : ¬ s.Kind = 3) : ntN l (k + 1) = ntN l k + 1 := by
 simp only [ntN, hs, if_neg h]
theorem ntN_step (l : List Sg) (k : Nat) : ntN l k <= ntN l (k + 1) /\ ntN l (k + 1) <= ntN l k + 1 := by
 cases hs : l[k]? with
 | none => simp [ntN, hs]
 | some s => by_cases h : s.Kind = 3 <;> simp [ntN, hs, h]
theorem ntN_mono (l : List Sg) : ∀ (n k : Nat), k <= n -> ntN l k <= ntN l n
 | 0, k, h => by have : k = 0 := by omega
                 subst this; exact Nat.le_refl _
 | n + 1, k, h => by
  rcases Nat.lt_or_ge n k with h1 | h1
  ·have : k = n + 1 := by omega
   subst this; exact Nat.le_refl _
  ·have := ntN_mono l n k h1
   have := (ntN_step l n).1
   omega
theorem ntN_le (l : List Sg) : ∀ k, ntN l k <= k
 | 0 => Nat.le_refl _
 | k + 1 => by have := ntN_le l k; have := (ntN_step l k).2; omega
theorem mkK_nt (ch : List Int) (l : List Sg) : ∀ k, (mkK ch l k).1.length = ntN l k
 | 0 => rfl
 | k + 1 => by
  have h := mkK_nt ch l k
  cases hs : l[k]? with
  | none => simp only [mkK, ntN, hs]; exact h
  | some s =>
   by_cases hK : s.Kind = 3
   ·rw [mkK_dot hs hK, ntN_dot hs hK]; simpa using h
   ·rw [mkK_note hs hK, ntN_nr hs hK]; simpa using h
theorem dvK_nt (m : Mn) (l : List Sg) (M : List (Int × Tm)) : ∀ k, (dvK m l M k).length = ntN l k
 | 0 => rfl
 | k + 1 => by
  have h := dvK_nt m l M k
  cases hs : l[k]? with
  | none => simp only [dvK, ntN, hs]; exact h
  | some s =>
   by_cases hK : s.Kind = 3
   ·rw [← dvK_dot hs hK, ntN_dot hs hK]; exact h
   ·rw [← dvK_nr hs hK, ntN_nr hs hK]; simpa using h
theorem dvK_get {m : Mn} {l : List Sg} {M : List (Int × Tm)} {k : Nat} {s : Sg} (hs : l[k]? = some s) (h : ¬ s.Kind = 3) : ∀ n, k < n -> (dvK m l M n)[ntN l k]? = some ((mget (k : Int) M).getD (bsT m s))
 | 0, hn => by omega
 | n + 1, hn => by
  rcases Nat.lt_or_ge k n with h1 | h1
  ·have ih := dvK_get (m := m) (M := M) hs h n h1
   have hlt : ntN l k < (dvK m l M n).length := (List.getElem?_eq_some_iff.1 ih).1
   cases hz : l[n]? with
   | none => simp only [dvK, hz]; exact ih
   | some z =>
    by_cases hK : z.Kind = 3
    ·rw [← dvK_dot hz hK]; exact ih
    ·rw [← dvK_nr hz hK, List.getElem?_append_left hlt]; exact ih
  ·have : k = n := by omega
   subst this
   rw [← dvK_nr hs h, ← dvK_nt m l M k, List.getElem?_append_right (Nat.le_refl _), Nat.sub_self]; rfl
def itOf (k : Nat) (s : Sg) (c : Int) (a : Bool) (d : Tm) : Ite :=
 ⟨k, s.Value, decide (s.Kind = 2), clr s, a || decide (s.Kind = 2) || clr s || decide (c = s.Value), c, if a = true then mulV d ⟨3, 2⟩ else d, ⟨0, 1⟩, ⟨0, 1⟩⟩
def itK (l : List Sg) (c : List Int) (a : List Bool) (d : List Tm) : Nat -> List Ite
 | 0 => []
 | k + 1 => match l[k]? with
  | some s => if s.Kind = 3 then itK l c a d k else itK l c a d k ++ [itOf k s (c.getD (ntN l k) 0) (a.getD (ntN l k) false) (d.getD (ntN l k) ⟨0, 0⟩)]
  | none => itK l c a d k
section
variable {l : List Sg} {c : List Int} {a : List Bool} {d : List Tm} {k : Nat} {s : Sg}
theorem itK_dot (hs : l[k]? = some s) (h : s.Kind = 3) : itK l c a d k = itK l c a d (k + 1) := by
 conv => rhs; unfold itK
 rw [hs]; simp only [if_pos h]
theorem itK_nr {x : Int} {y : Bool} {z : Tm} (hs : l[k]? = some s) (h : ¬ s.Kind = 3) (hx : c[ntN l k]? = some x) (hy : a[ntN l k]? = some y) (hz : d[ntN l k]? = some z) : itK l c a d k ++ [itOf k s x y z] = itK l c a d (k + 1) := by
 conv => rhs; unfold itK
 rw [hs]; simp only [if_neg h]
 rw [getD_of hx, getD_of hy, getD_of hz]
end
theorem itK_0 (l : List Sg) (c : List Int) (a : List Bool) (d : List Tm) : [] = itK l c a d 0 := rfl
theorem itK_nt (l : List Sg) (c : List Int) (a : List Bool) (d : List Tm) : ∀ k, (itK l c a d k).length = ntN l k
 | 0 => rfl
 | k + 1 => by
  have h := itK_nt l c a d k
  cases hs : l[k]? with
  | none => simp only [itK, ntN, hs]; exact h
  | some s =>
   by_cases hK : s.Kind = 3
   ·rw [← itK_dot hs hK, ntN_dot hs hK]; exact h
   ·simp only [itK, hs, if_neg hK, ntN_nr hs hK]; simpa using h
def mulOk (m : Mn) (v : Int) : Bool := decide (mulE (fullT m v) ⟨3, 2⟩ = 0) && decide (mulE (durT m v) ⟨3, 2⟩ = 0)
theorem mulOk_all : ckAll mulOk = true := by kernel_rfl
theorem mul_ok {m : Mn} {v : Int} (hm : ckM m = 0) (h1 : 1 <= v) (h8 : v <= 8) : mulE (fullT m v) ⟨3, 2⟩ = 0 /\ mulE (durT m v) ⟨3, 2⟩ = 0 := by
 have h := ckAll_use mulOk_all hm h1 h8
 unfold mulOk at h
 simpa using h
theorem bsT_mul {m : Mn} {s : Sg} (hm : ckM m = 0) (h1 : 1 <= s.Value) (h8 : s.Value <= 8) : mulE (bsT m s) ⟨3, 2⟩ = 0 := by
 unfold bsT; split
 ·exact (mul_ok hm h1 h8).2
 ·exact (mul_ok hm h1 h8).1
theorem markK_vals (p mi : List Int) (q : Int) : ∀ k x, mget q (markK p mi k) = some x -> x = ⟨3, 2⟩ \/ x = ⟨1, 2⟩
 | 0, x, h => by simp [markK, mget_nil] at h
 | k + 1, x, h => by
  unfold markK at h
  split at h
  ·rw [mget_mput, mget_mput] at h
   split at h
   ·injection h with h; exact .inr h.symm
   ·split at h
    ·injection h with h; exact .inl h.symm
    ·exact markK_vals p mi q k x h
  ·exact markK_vals p mi q k x h
theorem mark_mul {m : Mn} {l : List Sg} {mi : List Int} {q : Int} {s : Sg} (hm : ckM m = 0) (h1 : 1 <= s.Value) (h8 : s.Value <= 8) : mulE ((mget q (duM m l mi)).getD (bsT m s)) ⟨3, 2⟩ = 0 := by
 cases h : mget q (duM m l mi) with
 | none => exact bsT_mul hm h1 h8
 | some x =>
  rcases markK_vals _ _ _ _ _ h with rfl | rfl
  ·show mulE ⟨3, 2⟩ ⟨3, 2⟩ = 0; decide +kernel
  ·show mulE ⟨1, 2⟩ ⟨3, 2⟩ = 0; decide +kernel
def itmE (m : Mn) (l : List Sg) (ch mi : List Int) : Int := if mkE m l ch = 0 then duE m l mi else mkE m l ch
def itmV (m : Mn) (l : List Sg) (ch mi : List Int) : List Ite := if itmE m l ch mi = 0 then itK l (mkC m l ch) (mkA m l ch) (duV m l mi) l.length else []
theorem mkE_ck {m : Mn} {l : List Sg} {ch : List Int} (h : ¬ ckD m l = 0) : mkE m l ch = ckD m l := by unfold mkE; rw [if_neg h]
theorem ck_mkE {m : Mn} {l : List Sg} {ch : List Int} (h : mkE m l ch = 0) : ckD m l = 0 := by
 apply Classical.byContradiction; intro h2
 rw [mkE_ck h2] at h; exact h2 h
theorem itmE_a {m : Mn} {l : List Sg} {ch mi : List Int} (h : ¬ mkE m l ch = 0) : itmE m l ch mi = mkE m l ch := by unfold itmE; rw [if_neg h]
theorem itmE_b {m : Mn} {l : List Sg} {ch mi : List Int} (h : mkE m l ch = 0) : itmE m l ch mi = duE m l mi := by unfold itmE; rw [if_pos h]
theorem itmV_n {m : Mn} {l : List Sg} {ch mi : List Int} (h : ¬ itmE m l ch mi = 0) : itmV m l ch mi = [] := by unfold itmV; rw [if_neg h]
theorem itmV_y {m : Mn} {l : List Sg} {ch mi : List Int} (h : itmE m l ch mi = 0) : itmV m l ch mi = itK l (mkC m l ch) (mkA m l ch) (duV m l mi) l.length := by unfold itmV; rw [if_pos h]
theorem it_at {m : Mn} {l : List Sg} {ch mi : List Int} {k : Nat} {s : Sg} (h1 : mkE m l ch = 0) (h2 : duE m l mi = 0) (hs : l[k]? = some s) (h : ¬ s.Kind = 3) :
 ∃ x y z, (mkC m l ch)[ntN l k]? = some x /\ (mkA m l ch)[ntN l k]? = some y /\ (duV m l mi)[ntN l k]? = some z /\ mulE z ⟨3, 2⟩ = 0 /\ ntN l k < ntN l l.length /\ ckM m = 0 /\ 1 <= s.Value /\ s.Value <= 8 /\ (z = bsT m s \/ z = ⟨3, 2⟩ \/ z = ⟨1, 2⟩) := by
 have hk : k < l.length := (List.getElem?_eq_some_iff.1 hs).1
 have hlt : ntN l k < ntN l l.length := by
  have := ntN_mono l l.length (k + 1) hk
  rw [ntN_nr hs h] at this; omega
 obtain ⟨hm, v1, v8⟩ := ckFrom_val (ck_mkE h1) hs h
 have c1 : (mkC m l ch).length = ntN l l.length := by unfold mkC; rw [if_pos h1]; exact mkK_nt ch l l.length
 have c2 : (mkA m l ch).length = ntN l l.length := by unfold mkA; rw [if_pos h1, ← (mkK_len ch l l.length).1]; exact mkK_nt ch l l.length
 refine ⟨_, _, _, List.getElem?_eq_getElem (by omega), List.getElem?_eq_getElem (by omega), ?_, mark_mul (l := l) (mi := mi) (q := (k : Int)) (s := s) hm v1 v8, hlt, hm, v1, v8, ?_⟩
 ·unfold duV; rw [if_pos h2]
  exact dvK_get hs h l.length hk
 ·cases hq : mget (k : Int) (duM m l mi) with
  | none => exact .inl rfl
  | some x => exact .inr (markK_vals _ _ _ _ _ hq)
section
variable {k : Nat} {s : Sg} {x : Int} {y : Bool} {z : Tm}
def itL (k : Nat) (s : Sg) (f : Bool) (x : Int) (z : Tm) : Ite := ⟨k, s.Value, decide (s.Kind = 2), decide (s.Kind = 1) && s.Color, f, x, z, ⟨0, 1⟩, ⟨0, 1⟩⟩
theorem itL_a (hy : y = true) : itL k s true x (mulV z ⟨3, 2⟩) = itOf k s x y z := by subst hy; rfl
theorem itL_b (hy : y = false) (h : s.Kind = 2 \/ clr s = true \/ x = s.Value) : itL k s true x z = itOf k s x y z := by
 subst hy
 have : (false || decide (s.Kind = 2) || clr s || decide (x = s.Value)) = true := by
  rcases h with h | h | h <;> simp [h]
 unfold itOf itL; rw [this]; rfl
theorem itL_c (hy : y = false) (h1 : ¬ s.Kind = 2) (h2 : clr s = false) (h3 : ¬ x = s.Value) : itL k s false x z = itOf k s x y z := by
 subst hy
 have : (false || decide (s.Kind = 2) || clr s || decide (x = s.Value)) = false := by simp [h1, h2, h3]
 unfold itOf itL; rw [this]; rfl
end
end Go.Rse
namespace Go.Rse
open Go Go.Proofs
def prodL : List Int -> Int
 | [] => 1
 | x :: r => x * prodL r
theorem mul_pos1 {a b : Int} (h : 1 <= a) (h' : 1 <= b) : 1 <= a * b := by
 have := Int.mul_le_mul h h' (by omega) (by omega); simpa using this
theorem mul_ge {a b : Int} (h : 1 <= a) (h' : 1 <= b) : a <= a * b := by
 have := Int.mul_le_mul_of_nonneg_left h' (show 0 <= a by omega); simpa using this
theorem prodL_pos : ∀ {l : List Int}, (∀ x ∈ l, 1 <= x) -> 1 <= prodL l
 | [], _ => Int.le_refl _
 | x :: r, h => mul_pos1 (h x (by simp)) (prodL_pos fun y hy => h y (by simp [hy]))
theorem prodL_append : ∀ (a b : List Int), prodL (a ++ b) = prodL a * prodL b
 | [], b => by simp [prodL]
 | x :: r, b => by simp only [List.cons_append, prodL, prodL_append r b, Int.mul_assoc]
theorem prodL_twos : ∀ n, prodL (twos n) = 2 ^ n
 | 0 => rfl
 | n + 1 => by
  have e : twos (n + 1) = 2 :: twos n := by unfold twos; rfl
  rw [e]; simp only [prodL, prodL_twos n]; exact pow2_s n
def cntK : Int -> List Int -> Int
 | n, [] => n
 | n, x :: r => if n * x > 64 then n * x else cntK (n * x) r
theorem cntF_K : ∀ (L : List (List Int)) (n : Int), cntF n L = cntK n (L.map fun x => (x.length : Int))
 | [], n => rfl
 | x :: r, n => by simp only [cntF, List.map_cons, cntK, cntF_K r]
theorem cntK_law : ∀ {l : List Int}, (∀ x ∈ l, 1 <= x) -> ∀ {n : Int}, 1 <= n -> n <= 64 -> (64 < cntK n l ↔ 64 < n * prodL l) /\ (cntK n l <= 64 -> cntK n l = n * prodL l)
 | [], _, n, h1, h2 => by simp [cntK, prodL]
 | x :: r, h, n, h1, h2 => by
  have hx := h x (by simp)
  have hr : ∀ y ∈ r, 1 <= y := fun y hy => h y (by simp [hy])
  have hp := prodL_pos hr
  have hnx := mul_pos1 h1 hx
  have e : n * prodL (x :: r) = n * x * prodL r := by simp only [prodL, Int.mul_assoc]
  rw [e]
  unfold cntK
  by_cases hg : n * x > 64
  ·rw [if_pos hg]
   have := mul_ge hnx hp
   exact ⟨⟨fun _ => by omega, fun _ => hg⟩, fun h => by omega⟩
  ·rw [if_neg hg]
   exact cntK_law hr hnx (by omega)
def kL (m : Mn) (l : List Sg) : List Int := (mnsD m l).map (fun x => (x.length : Int)) ++ twos (prL m l).length
def ictE (m : Mn) (l : List Sg) : Int := if cntE m l = 0 then (if colE m l = 0 then (if 64 < cntV m l * colN m l then 15 else 0) else colE m l) else cntE m l
def ictV (m : Mn) (l : List Sg) : Int := if ictE m l = 0 then cntV m l * colN m l else 0
theorem kL_pos {m : Mn} {l : List Sg} (hck : ckD m l = 0) : ∀ x ∈ kL m l, 1 <= x := fun x hx => by
 unfold kL at hx
 rcases List.mem_append.1 hx with h | h
 ·obtain ⟨y, hy, rfl⟩ := List.mem_map.1 h
  have := mnsD_pos hck hy; omega
 ·unfold twos at h; rw [List.eq_of_mem_replicate h]; decide
theorem pow_big {n : Nat} (h : 6 < n) : 64 < (2 : Int) ^ n := by
 obtain ⟨k, rfl⟩ : ∃ k, n = 7 + k := ⟨n - 7, by omega⟩
 have : (1 : Int) <= 2 ^ k := Int.pow_pos (by decide)
 rw [Int.pow_add]
 have e : (2 : Int) ^ 7 = 128 := by decide
 rw [e]; omega
theorem ict_n {m : Mn} {l : List Sg} (h : ¬ ckD m l = 0) : ictE m l = ckD m l /\ ictV m l = 0 := by
 have e : cntE m l = ckD m l := by unfold cntE; rw [if_neg h]
 have e2 : ictE m l = ckD m l := by unfold ictE; rw [e, if_neg h]
 exact ⟨e2, by unfold ictV; rw [e2, if_neg h]⟩
theorem ict_law {m : Mn} {l : List Sg} (h : ckD m l = 0) : ictE m l = (if 64 < cntK 1 (kL m l) then 15 else 0) /\ ictV m l = (if 64 < cntK 1 (kL m l) then 0 else cntK 1 (kL m l)) := by
 have h1 : ∀ x ∈ (mnsD m l).map (fun x => (x.length : Int)), 1 <= x := fun x hx => kL_pos h x (by unfold kL; exact List.mem_append_left _ hx)
 have c1 := cntK_law h1 (n := 1) (by omega) (by omega)
 have c2 := cntK_law (kL_pos h) (n := 1) (by omega) (by omega)
 have p1 := prodL_pos h1
 have e : prodL (kL m l) = prodL ((mnsD m l).map (fun x => (x.length : Int))) * 2 ^ (prL m l).length := by unfold kL; rw [prodL_append, prodL_twos]
 rw [← cntF_K] at c1
 rw [e] at c2
 simp only [Int.one_mul] at c1 c2
 generalize prodL ((mnsD m l).map (fun x => (x.length : Int))) = p at *
 have e1 : cntE m l = if cntF 1 (mnsD m l) > 64 then 15 else 0 := by unfold cntE; rw [if_pos h]
 have e2 : cntV m l = if cntF 1 (mnsD m l) > 64 then 0 else cntF 1 (mnsD m l) := by unfold cntV; rw [if_pos h]
 have e3 : colE m l = if 6 < (prL m l).length then 15 else 0 := by unfold colE; rw [if_pos h]
 have e4 : colN m l = if 6 < (prL m l).length then 0 else 2 ^ (prL m l).length := by unfold colN; rw [if_pos h]
 by_cases g1 : 64 < cntF 1 (mnsD m l)
 ·have hp : 64 < p := c1.1.1 g1
  have hq : (1 : Int) <= 2 ^ (prL m l).length := Int.pow_pos (by decide)
  have := mul_ge p1 hq
  have g2 := c2.1.2 (by omega)
  have : ictE m l = 15 := by unfold ictE; rw [e1, if_pos g1]; rfl
  exact ⟨by rw [if_pos g2]; exact this, by unfold ictV; rw [if_pos g2, this]; rfl⟩
 ·have hE1 : cntE m l = 0 := by rw [e1, if_neg (by omega)]
  have hV1 : cntV m l = p := by rw [e2, if_neg (by omega)]; exact c1.2 (by omega)
  by_cases g3 : 6 < (prL m l).length
  ·have hb := pow_big g3
   have hm : 2 ^ (prL m l).length <= p * 2 ^ (prL m l).length := by rw [Int.mul_comm]; exact mul_ge (by omega) p1
   have g2 := c2.1.2 (by omega)
   have : ictE m l = 15 := by unfold ictE; rw [if_pos hE1, e3, if_pos g3]; rfl
   exact ⟨by rw [if_pos g2]; exact this, by unfold ictV; rw [if_pos g2, this]; rfl⟩
  ·have hE2 : colE m l = 0 := by rw [e3, if_neg g3]
   have hV2 : colN m l = 2 ^ (prL m l).length := by rw [e4, if_neg g3]
   have hE : ictE m l = if 64 < p * 2 ^ (prL m l).length then 15 else 0 := by unfold ictE; rw [if_pos hE1, if_pos hE2, hV1, hV2]
   by_cases g2 : 64 < cntK 1 (kL m l)
   ·rw [if_pos g2, if_pos g2]
    have : ictE m l = 15 := by rw [hE, if_pos (c2.1.1 g2)]
    exact ⟨this, by unfold ictV; rw [this]; rfl⟩
   ·rw [if_neg g2, if_neg g2]
    have : ictE m l = 0 := by rw [hE, if_neg (fun x => g2 (c2.1.2 x))]
    exact ⟨this, by unfold ictV; rw [if_pos this, hV1, hV2, c2.2 (by omega)]⟩
theorem ict_0 {m : Mn} {l : List Sg} (h : ictE m l = 0) : ckD m l = 0 /\ cntE m l = 0 /\ colE m l = 0 /\ (prL m l).length <= 6 /\ colN m l = 2 ^ (prL m l).length /\ ictV m l = cntV m l * colN m l /\ ictV m l <= 64 /\ 1 <= cntV m l := by
 have hck : ckD m l = 0 := by
  apply Classical.byContradiction; intro hn
  rw [(ict_n hn).1] at h; exact hn h
 have hV : ictV m l = cntV m l * colN m l := by unfold ictV; rw [if_pos h]
 unfold ictE at h
 split at h
 ·next a =>
  split at h
  ·next b =>
   split at h
   ·omega
   ·next c =>
    obtain ⟨q1, q2, q3⟩ := colE_z b
    refine ⟨hck, a, b, q2, q3, hV, by omega, ?_⟩
    have e2 : cntV m l = if cntF 1 (mnsD m l) > 64 then 0 else cntF 1 (mnsD m l) := by unfold cntV; rw [if_pos hck]
    have hp := cntF_pos (L := mnsD m l) (n := 1) (fun x hx => mnsD_pos hck hx) (by omega) (by omega)
    unfold cntE at a; rw [if_pos hck] at a
    split at a
    ·omega
    ·next d => rw [e2, if_neg d]; exact hp
  ·next b => exact absurd h b
 ·next a => exact absurd h a
def dgL : Int -> List Int -> List Int × Int
 | n, [] => ([], n)
 | n, b :: r => ((dgL n r).2 % b :: (dgL n r).1, (dgL n r).2 / b)
theorem dgL_nn : ∀ {l : List Int} {n : Int}, 0 <= n -> (∀ x ∈ l, 1 <= x) -> 0 <= (dgL n l).2 /\ (dgL n l).2 <= n
 | [], n, h, _ => ⟨h, Int.le_refl _⟩
 | b :: r, n, h, hl => by
  obtain ⟨a, c⟩ := dgL_nn (l := r) h (fun y hy => hl y (by simp [hy]))
  have hb := hl b (by simp)
  exact ⟨Int.ediv_nonneg a (by omega), Int.le_trans (Int.ediv_le_self _ a) c⟩
theorem dgL_len : ∀ (l : List Int) (n : Int), (dgL n l).1.length = l.length
 | [], n => rfl
 | b :: r, n => by simp [dgL, dgL_len r n]
def iofE (m : Mn) (l : List Sg) (n : Int) : Int := if ictE m l = 0 then (if n < 0 \/ ictV m l <= n then 2 else 0) else ictE m l
def iofD (m : Mn) (l : List Sg) (n : Int) : List Int := if iofE m l n = 0 then ofD (mnsD m l) (n / 2 ^ (prL m l).length) else []
def iofM (m : Mn) (l : List Sg) (n : Int) : List Int := if iofE m l n = 0 then digP n (prL m l).length (prL m l).length else []
theorem iof_0 {m : Mn} {l : List Sg} {n : Int} (h : iofE m l n = 0) : ictE m l = 0 /\ 0 <= n /\ n < ictV m l := by
 unfold iofE at h
 split at h
 ·next a =>
  split at h
  ·omega
  ·next b => exact ⟨a, by omega, by omega⟩
 ·next a => exact absurd h a
theorem iofD_n {m : Mn} {l : List Sg} {n : Int} (h : ¬ iofE m l n = 0) : iofD m l n = [] := by unfold iofD; rw [if_neg h]
theorem iofM_n {m : Mn} {l : List Sg} {n : Int} (h : ¬ iofE m l n = 0) : iofM m l n = [] := by unfold iofM; rw [if_neg h]
theorem dig_tab : ∀ n : Fin 64, ∀ K : Fin 7, ∀ j : Fin 7, j.val < K.val -> ((n.val : Int) % 2 ^ K.val) / 2 ^ (K.val - 1 - j.val) % 2 = (n.val : Int) / 2 ^ (K.val - 1 - j.val) % 2 := by decide +kernel
theorem dig_low {n : Int} {K : Nat} (h0 : 0 <= n) (h1 : n < 64) (hK : K <= 6) : digP (n % 2 ^ K) K K = digP n K K := by
 unfold digP
 refine List.map_congr_left fun j hj => ?_
 have hj := List.mem_range.1 hj
 unfold dig
 have := dig_tab ⟨n.toNat, by omega⟩ ⟨K, by omega⟩ ⟨j, by omega⟩ hj
 simp only at this
 rw [show ((n.toNat : Nat) : Int) = n by omega] at this
 rw [this]
theorem iof_prog {m : Mn} {l : List Sg} {n : Int} (h : iofE m l n = 0) :
 ofE m l (n / colN m l % cntV m l) = 0 /\ ofL m l (n / colN m l % cntV m l) = iofD m l n /\ cfE m l (n % colN m l) = 0 /\ cfV m l (n % colN m l) = iofM m l n := by
 obtain ⟨hE, h0, h1⟩ := iof_0 h
 obtain ⟨hck, a, b, q2, q3, hV, h64, hc⟩ := ict_0 hE
 have hb := pow2_tab q2
 rw [← q3] at hb
 have hq0 : 0 <= n / colN m l := Int.ediv_nonneg h0 (by omega)
 have hq1 : n / colN m l < cntV m l := Int.ediv_lt_of_lt_mul (by omega) (by rw [← hV]; exact h1)
 have hr0 : 0 <= n % colN m l := Int.emod_nonneg _ (by omega)
 have hr1 : n % colN m l < colN m l := Int.emod_lt_of_pos _ (by omega)
 have e0 : n / colN m l % cntV m l = n / colN m l := Int.emod_eq_of_lt hq0 hq1
 rw [e0]
 have e1 : ofE m l (n / colN m l) = 0 := by unfold ofE; rw [if_pos a, if_neg (by omega)]
 have e2 : cfE m l (n % colN m l) = 0 := by unfold cfE; rw [if_pos b, if_neg (by omega)]
 refine ⟨e1, ?_, e2, ?_⟩
 ·unfold ofL iofD; rw [if_pos e1, if_pos h, q3]
 ·unfold cfV iofM; rw [if_pos b, if_neg (by omega), if_pos h, q3]; exact dig_low h0 (by omega) q2
section
variable {m : Mn} {l : List Sg}
end
end Go.Rse
