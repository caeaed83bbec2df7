/-
  Plain: combinations by number rise in the lists' order, and each is had once.
-/
import Derived.Test.YteecbmgddacioaaLaw9h
namespace Go.Rse
open Go Go.Proofs
set_option linter.unusedVariables false
set_option linter.unusedSimpArgs false
/-- The combination with a number, the lists given from the last one on. -/
def ofG : List (List Int) → Int → List Int
  | [], _ => []
  | x :: R, n => ofG R (n / (x.length : Int)) ++ [x.getD (n % (x.length : Int)).toNat 0]
def cntG : List (List Int) → Int
  | [] => 1
  | x :: R => (x.length : Int) * cntG R
theorem ofG_len : ∀ (R : List (List Int)) (n : Int), (ofG R n).length = R.length
  | [], _ => rfl
  | x :: R, n => by simp [ofG, ofG_len R]
theorem lessL_app : ∀ {a b : List Int} (c d : List Int), a.length = b.length → lessL a b = true → lessL (a ++ c) (b ++ d) = true
  | [], [], c, d, _, h => by simp [lessL] at h
  | [], _ :: _, c, d, hl, _ => by simp at hl
  | _ :: _, [], c, d, hl, _ => by simp at hl
  | x :: a, y :: b, c, d, hl, h => by
    simp only [lessL, List.cons_append] at h ⊢
    by_cases e : x = y
    · rw [if_pos e] at h ⊢; exact lessL_app c d (by simpa using hl) h
    · rw [if_neg e] at h ⊢; exact h
theorem lessL_same : ∀ (p : List Int) {x y : Int}, x < y → lessL (p ++ [x]) (p ++ [y]) = true
  | [], x, y, h => by
    simp only [List.nil_append, lessL]
    rw [if_neg (by omega)]; simpa using h
  | z :: p, x, y, h => by
    simp only [List.cons_append, lessL, if_true]; exact lessL_same p h
/-- One or two, ascending. -/
def Asc (x : List Int) : Prop := (∃ a, x = [a]) ∨ (∃ a b, x = [a, b] ∧ a < b)
theorem Asc.len {x : List Int} (h : Asc x) : x.length = 1 ∨ x.length = 2 := by
  rcases h with ⟨a, rfl⟩ | ⟨a, b, rfl, _⟩
  · exact .inl rfl
  · exact .inr rfl
theorem cntG_pos : ∀ {R : List (List Int)}, (∀ x ∈ R, Asc x) → 1 ≤ cntG R
  | [], _ => by simp [cntG]
  | x :: R, h => by
    have h1 := (h x (by simp)).len
    have h2 := cntG_pos (R := R) fun y hy => h y (by simp [hy])
    simp only [cntG]
    rcases h1 with e | e <;> rw [e] <;> omega
theorem ofG_up : ∀ {R : List (List Int)}, (∀ x ∈ R, Asc x) → ∀ {n : Int}, 0 ≤ n → n + 1 < cntG R → lessL (ofG R n) (ofG R (n + 1)) = true
  | [], _, n, h0, h1 => by simp [cntG] at h1; omega
  | x :: R, h, n, h0, h1 => by
    have hR : ∀ y ∈ R, Asc y := fun y hy => h y (by simp [hy])
    simp only [cntG] at h1
    simp only [ofG]
    rcases h x (by simp) with ⟨a, rfl⟩ | ⟨a, b, rfl, hab⟩
    · simp only [List.length_cons, List.length_nil] at h1 ⊢
      refine lessL_app _ _ (by rw [ofG_len, ofG_len]) ?_
      have e1 : n / ((0 + 1 : Nat) : Int) = n := by omega
      have e2 : (n + 1) / ((0 + 1 : Nat) : Int) = n + 1 := by omega
      rw [e1, e2]
      exact ofG_up hR h0 (by omega)
    · simp only [List.length_cons, List.length_nil] at h1 ⊢
      rcases Int.emod_two_eq n with e | e
      · have e1 : (n + 1) / ((0 + 1 + 1 : Nat) : Int) = n / ((0 + 1 + 1 : Nat) : Int) := by omega
        have e2 : (n % ((0 + 1 + 1 : Nat) : Int)).toNat = 0 := by omega
        have e3 : ((n + 1) % ((0 + 1 + 1 : Nat) : Int)).toNat = 1 := by omega
        rw [e1, e2, e3]
        exact lessL_same _ hab
      · have e1 : (n + 1) / ((0 + 1 + 1 : Nat) : Int) = n / ((0 + 1 + 1 : Nat) : Int) + 1 := by omega
        rw [e1]
        refine lessL_app _ _ (by rw [ofG_len, ofG_len]) (ofG_up hR (by omega) (by omega))
/-- A choice of one out of each list. -/
inductive ChG : List (List Int) → List Int → Prop
  | nil : ChG [] []
  | snoc {x : List Int} {R : List (List Int)} {r : List Int} {v : Int} (hv : v ∈ x) (h : ChG R r) : ChG (x :: R) (r ++ [v])
theorem ofG_ch : ∀ {R : List (List Int)}, (∀ x ∈ R, Asc x) → ∀ {n : Int}, 0 ≤ n → n < cntG R → ChG R (ofG R n)
  | [], _, n, _, _ => .nil
  | x :: R, h, n, h0, h1 => by
    have hR : ∀ y ∈ R, Asc y := fun y hy => h y (by simp [hy])
    simp only [cntG] at h1
    simp only [ofG]
    have hl := (h x (by simp)).len
    have hm0 : 0 ≤ n % (x.length : Int) := Int.emod_nonneg _ (by omega)
    have hm1 : n % (x.length : Int) < (x.length : Int) := Int.emod_lt_of_pos _ (by omega)
    refine .snoc ?_ (ofG_ch hR (Int.ediv_nonneg h0 (by omega)) (Int.ediv_lt_of_lt_mul (by omega) (by rw [Int.mul_comm]; exact h1)))
    rw [List.getD_eq_getElem?_getD, List.getElem?_eq_getElem (by omega)]
    exact List.getElem_mem _
theorem ofG_has {R : List (List Int)} {r : List Int} (hc : ChG R r) : (∀ x ∈ R, Asc x) → ∃ n : Int, 0 ≤ n ∧ n < cntG R ∧ ofG R n = r := by
  induction hc with
  | nil => exact fun _ => ⟨0, by omega, by simp [cntG], rfl⟩
  | @snoc x R r v hv _ ih =>
    intro h
    have hR : ∀ y ∈ R, Asc y := fun y hy => h y (by simp [hy])
    obtain ⟨n, h0, h1, h2⟩ := ih hR
    rcases h x (by simp) with ⟨a, rfl⟩ | ⟨a, b, rfl, hab⟩
    · refine ⟨n, h0, by simp only [cntG, List.length_cons, List.length_nil]; omega, ?_⟩
      simp only [ofG, List.length_cons, List.length_nil]
      have e1 : n / ((0 + 1 : Nat) : Int) = n := by omega
      have e2 : (n % ((0 + 1 : Nat) : Int)).toNat = 0 := by omega
      rw [e1, e2, h2]
      simp at hv; subst hv; rfl
    · simp at hv
      rcases hv with rfl | rfl
      · refine ⟨2 * n, by omega, by simp only [cntG, List.length_cons, List.length_nil]; omega, ?_⟩
        simp only [ofG, List.length_cons, List.length_nil]
        have e1 : 2 * n / ((0 + 1 + 1 : Nat) : Int) = n := by omega
        have e2 : (2 * n % ((0 + 1 + 1 : Nat) : Int)).toNat = 0 := by omega
        rw [e1, e2, h2]; rfl
      · refine ⟨2 * n + 1, by omega, by simp only [cntG, List.length_cons, List.length_nil]; omega, ?_⟩
        simp only [ofG, List.length_cons, List.length_nil]
        have e1 : (2 * n + 1) / ((0 + 1 + 1 : Nat) : Int) = n := by omega
        have e2 : ((2 * n + 1) % ((0 + 1 + 1 : Nat) : Int)).toNat = 1 := by omega
        rw [e1, e2, h2]; rfl
theorem ofRow_G (L : List (List Int)) (n : Int) : ∀ (d j : Nat), j + d = L.length → ofRow L n L.length = ofG (L.take d).reverse (ofN L n j) ++ ofRow L n j
  | 0, j, h => by
    have : j = L.length := by omega
    subst this; simp [ofG]
  | d + 1, j, h => by
    have hd : L[d]? = some L[d] := List.getElem?_eq_getElem (by omega)
    have hg : L.getD (L.length - 1 - j) [] = L[d] := by
      rw [show L.length - 1 - j = d by omega, List.getD_eq_getElem?_getD, hd]; rfl
    rw [ofRow_G L n d (j + 1) (by omega), List.take_add_one, hd]
    simp only [Option.toList_some, List.reverse_append, List.reverse_cons, List.reverse_nil, List.nil_append, List.cons_append, ofG, ofRow, ofN, ofV, hg, List.append_assoc]
theorem ofD_G (L : List (List Int)) (n : Int) : ofD L n = ofG L.reverse n := by
  have := ofRow_G L n L.length 0 (by omega)
  rw [List.take_length] at this
  simpa [ofD, ofRow, ofN] using this
end Go.Rse
