/-
  Plain: times as fractions: greatest common divisors, validity, arithmetic.
-/
import Derived.Test.YtfiiobachmglpaaGreatDoorCTk
set_option linter.unusedSimpArgs false
set_option linter.unusedVariables false
namespace Go.Rse
open Go Go.Proofs
def gI (a b : Int) : Int := (Nat.gcd a.natAbs b.natAbs : Nat)
theorem gI_zero {a : Int} (h : 0 <= a) : gI a 0 = a := by
 unfold gI; simp; omega
theorem gI_step {a b : Int} (ha : 0 <= a) (hb : 0 < b) : gI b (a % b) = gI a b := by
 obtain ⟨m, rfl⟩ := Int.eq_ofNat_of_zero_le ha
 obtain ⟨n, rfl⟩ := Int.eq_ofNat_of_zero_le (Int.le_of_lt hb)
 unfold gI
 have : ((m : Int) % (n : Int)).natAbs = m % n := by rw [← Int.natCast_emod]; exact Int.natAbs_natCast _
 rw [this]; simp only [Int.natAbs_natCast]
 rw [Nat.gcd_comm n (m % n), ← Nat.gcd_rec, Nat.gcd_comm]
theorem gI_pos {n d : Int} (h : 0 < d) : 0 < gI n d := by
 unfold gI
 have : 0 < Nat.gcd n.natAbs d.natAbs := Nat.gcd_pos_of_pos_right _ (by omega)
 omega
def tmZ : Tm := ⟨0, 0⟩
def ckT (t : Tm) : Int := if t.N < 0 \/ 1099511627776 < t.N \/ t.D < 1 \/ 1048576 < t.D then 2 else if 1 < gI t.N t.D then 3 else 0
theorem ckT_b {t : Tm} (h : ckT t = 0) : 0 <= t.N /\ t.N <= 1099511627776 /\ 0 <= t.D /\ t.D <= 1048576 /\ 1 <= t.D /\ gI t.N t.D = 1 := by
 unfold ckT at h
 split at h
 ·simp at h
 ·split at h
  ·simp at h
  ·have := gI_pos (n := t.N) (d := t.D) (by omega); omega
def firstT : List Tm -> Int
 | [] => 0
 | t :: r => if ckT t = 0 then firstT r else ckT t
theorem firstT_step {l : List Tm} {k : Nat} {t : Tm} (h : l[k]? = some t) : firstT (l.drop k) = if ckT t = 0 then firstT (l.drop (k + 1)) else ckT t := by
 have h1 := List.getElem?_eq_some_iff.1 h
 rw [List.drop_eq_getElem_cons h1.1, h1.2]; rfl
theorem first2 {a b : Tm} (h : firstT [a, b] = 0) : ckT a = 0 /\ ckT b = 0 := by
 simp only [firstT] at h
 by_cases ha : ckT a = 0
 ·rw [if_pos ha] at h
  by_cases hb : ckT b = 0
  ·exact ⟨ha, hb⟩
  ·rw [if_neg hb] at h; exact absurd h hb
 ·rw [if_neg ha] at h; exact absurd h ha
theorem first_all : ∀ {l : List Tm}, firstT l = 0 -> ∀ t ∈ l, ckT t = 0
 | [], _, t, ht => by simp at ht
 | s :: r, h, t, ht => by
  simp only [firstT] at h
  by_cases hs : ckT s = 0
  ·rw [if_pos hs] at h
   rcases List.mem_cons.1 ht with rfl | ht
   ·exact hs
   ·exact first_all h t ht
  ·rw [if_neg hs] at h; exact absurd h hs
theorem mulB {x y X Y : Int} (h1 : 0 <= x) (h2 : x <= X) (h3 : 0 <= y) (h4 : y <= Y) : 0 <= x * y /\ x * y <= X * Y :=
 ⟨Int.mul_nonneg h1 h3, Int.mul_le_mul h2 h4 h3 (Int.le_trans h1 h2)⟩
theorem mulP {x y : Int} (h1 : 1 <= x) (h2 : 1 <= y) : 1 <= x * y := by
 have := Int.mul_le_mul h1 h2 (by omega) (by omega); simpa using this
def tmkE (n d : Int) : Int := if n < 0 \/ d < 0 then 2 else if d = 0 then 5 else if 1099511627776 < n / gI n d \/ 1048576 < d / gI n d then 4 else 0
def tmkT (n d : Int) : Tm := if tmkE n d = 0 then ⟨n / gI n d, d / gI n d⟩ else tmZ
def addE (a b : Tm) : Int := if firstT [a, b] = 0 then tmkE (a.N * b.D + b.N * a.D) (a.D * b.D) else firstT [a, b]
def addV (a b : Tm) : Tm := if firstT [a, b] = 0 then tmkT (a.N * b.D + b.N * a.D) (a.D * b.D) else tmZ
def subE (a b : Tm) : Int := if firstT [a, b] = 0 then tmkE (a.N * b.D - b.N * a.D) (a.D * b.D) else firstT [a, b]
def subV (a b : Tm) : Tm := if firstT [a, b] = 0 then tmkT (a.N * b.D - b.N * a.D) (a.D * b.D) else tmZ
def bigQ (a b c d : Int) : Prop := (0 < a /\ 1099511627776 / a < c) \/ (0 < d /\ 1048576 / d < b)
instance (a b c d : Int) : Decidable (bigQ a b c d) := inferInstanceAs (Decidable (_ \/ _))
def tmsE (a b c d : Int) : Int := if bigQ (a / gI a d) (b / gI c b) (c / gI c b) (d / gI a d) then 4 else tmkE (a / gI a d * (c / gI c b)) (b / gI c b * (d / gI a d))
def tmsV (a b c d : Int) : Tm := if bigQ (a / gI a d) (b / gI c b) (c / gI c b) (d / gI a d) then tmZ else tmkT (a / gI a d * (c / gI c b)) (b / gI c b * (d / gI a d))
def mulE (a b : Tm) : Int := if firstT [a, b] = 0 then tmsE a.N a.D b.N b.D else firstT [a, b]
def mulV (a b : Tm) : Tm := if firstT [a, b] = 0 then tmsV a.N a.D b.N b.D else tmZ
def cmpV (a b : Tm) : Int := if firstT [a, b] = 0 then (if a.N * b.D < b.N * a.D then -1 else if b.N * a.D < a.N * b.D then 1 else 0) else 0
def sumF : Tm -> List Tm -> Tm × Int
 | s, [] => (s, 0)
 | s, t :: r => if addE s t = 0 then sumF (addV s t) r else (tmZ, addE s t)
theorem sumF_step {l : List Tm} {k : Nat} {t s : Tm} (h : l[k]? = some t) : sumF s (l.drop k) = if addE s t = 0 then sumF (addV s t) (l.drop (k + 1)) else (tmZ, addE s t) := by
 have h1 := List.getElem?_eq_some_iff.1 h
 rw [List.drop_eq_getElem_cons h1.1, h1.2]; rfl
def sumE (l : List Tm) : Int := if firstT l = 0 then (sumF ⟨0, 1⟩ l).2 else firstT l
def sumV (l : List Tm) : Tm := if firstT l = 0 then (sumF ⟨0, 1⟩ l).1 else tmZ
theorem le_of_div {a c M : Int} (ha : 0 < a) (hM : 0 <= M) (h : ¬ M / a < c) : a * c <= M := by
 have h1 : c <= M / a := by omega
 have h2 := Int.mul_le_mul_of_nonneg_left h1 (Int.le_of_lt ha)
 exact Int.le_trans h2 (Int.mul_ediv_self_le (by omega))
end Go.Rse
