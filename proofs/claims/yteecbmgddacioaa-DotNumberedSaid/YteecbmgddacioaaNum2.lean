/-
  Plain: how many combinations there are.
-/
import Derived.Test.YteecbmgddacioaaNum1
namespace Go.Rse
open Go Go.Proofs
set_option linter.unusedVariables false
set_option linter.unusedSimpArgs false
theorem cntG_append : ∀ (A B : List (List Int)), cntG (A ++ B) = cntG A * cntG B
  | [], B => by simp [cntG]
  | x :: A, B => by simp only [List.cons_append, cntG, cntG_append A B, Int.mul_assoc]
theorem cntG_rev : ∀ (L : List (List Int)), cntG L.reverse = cntG L
  | [] => rfl
  | x :: L => by
    rw [List.reverse_cons, cntG_append, cntG_rev L]
    simp only [cntG, Int.mul_one]; exact Int.mul_comm _ _
theorem cntF_prod : ∀ {L : List (List Int)} {n : Int}, cntF n L ≤ 64 → cntF n L = n * cntG L
  | [], n, h => by simp [cntF, cntG]
  | x :: L, n, h => by
    unfold cntF at h ⊢
    split at h
    · omega
    · rename_i h1
      rw [if_neg h1, cntF_prod h]
      simp only [cntG, Int.mul_assoc]
theorem cnt_G {m : Mn} {l : List Sg} (h : cntE m l = 0) : cntV m l = cntG (mnsD m l).reverse := by
  have hc := cntE_ck h
  unfold cntE at h
  rw [if_pos hc] at h
  unfold cntV
  rw [if_pos hc]
  by_cases h1 : cntF 1 (mnsD m l) > 64
  · rw [if_pos h1] at h; simp at h
  · rw [if_neg h1, cntG_rev, cntF_prod (by omega), Int.one_mul]
theorem ch_of {L : List (List Int)} {c : List Int} (hl : L.length = c.length) (h : ∀ (i : Nat) x v, L[i]? = some x → c[i]? = some v → v ∈ x) : ∀ k, k ≤ L.length → ChG (L.take k).reverse (c.take k)
  | 0, _ => by simpa using ChG.nil
  | k + 1, hk => by
    have hx : L[k]? = some L[k] := List.getElem?_eq_getElem (by omega)
    have hv : c[k]? = some c[k] := List.getElem?_eq_getElem (by omega)
    rw [List.take_add_one, List.take_add_one, hx, hv]
    simp only [Option.toList_some, List.reverse_append, List.reverse_cons, List.reverse_nil, List.nil_append, List.cons_append]
    exact .snoc (h k _ _ hx hv) (ch_of hl h k (by omega))
theorem ch_mem {R : List (List Int)} {r : List Int} (hc : ChG R r) : r.length = R.length ∧ ∀ (i : Nat) x v, R.reverse[i]? = some x → r[i]? = some v → v ∈ x := by
  induction hc with
  | nil => exact ⟨rfl, fun i x v h => by simp at h⟩
  | @snoc x0 R r v0 hv _ ih =>
    refine ⟨by simp [ih.1], fun i x v hx hvv => ?_⟩
    rw [List.reverse_cons, List.getElem?_append] at hx
    rw [List.getElem?_append] at hvv
    simp only [List.length_reverse] at hx
    by_cases hi : i < R.length
    · rw [if_pos hi] at hx
      rw [if_pos (by omega)] at hvv
      exact ih.2 i x v hx hvv
    · rw [if_neg hi] at hx
      rw [if_neg (by omega)] at hvv
      have e1 : i - R.length = 0 := by
        have := (List.getElem?_eq_some_iff.1 hx).1
        simp at this; omega
      rw [e1] at hx
      rw [ih.1, e1] at hvv
      simp at hx hvv
      subst hx; subst hvv; exact hv
theorem ch_ok {L : List (List Int)} {r : List Int} (hc : ChG L.reverse r) : L.length = r.length ∧ chOk r L := by
  obtain ⟨h1, h2⟩ := ch_mem hc
  rw [List.reverse_reverse] at h2
  exact ⟨by simpa using h1.symm, chOk_iff.2 h2⟩
theorem ofG_inj : ∀ {R : List (List Int)}, (∀ x ∈ R, Asc x) → ∀ {n k : Int}, 0 ≤ n → n < cntG R → 0 ≤ k → k < cntG R → ofG R n = ofG R k → n = k
  | [], _, n, k, h0, h1, h2, h3, _ => by simp [cntG] at h1 h3; omega
  | x :: R, h, n, k, h0, h1, h2, h3, e => by
    have hR : ∀ y ∈ R, Asc y := fun y hy => h y (by simp [hy])
    simp only [cntG] at h1 h3
    simp only [ofG] at e
    obtain ⟨e1, e2⟩ := List.append_inj e (by rw [ofG_len, ofG_len])
    simp only [List.cons.injEq, and_true] at e2
    rcases h x (by simp) with ⟨a, rfl⟩ | ⟨a, b, rfl, hab⟩
    · simp only [List.length_cons, List.length_nil] at h1 h3 e1
      have := ofG_inj hR (by omega) (by omega) (by omega) (by omega) e1
      omega
    · simp only [List.length_cons, List.length_nil] at h1 h3 e1 e2
      have hq := ofG_inj hR (by omega) (by omega) (by omega) (by omega) e1
      rcases Int.emod_two_eq n with q | q <;> rcases Int.emod_two_eq k with q' | q'
      · omega
      · exfalso
        rw [show (n % ((0 + 1 + 1 : Nat) : Int)).toNat = 0 by omega, show (k % ((0 + 1 + 1 : Nat) : Int)).toNat = 1 by omega] at e2
        simp at e2; omega
      · exfalso
        rw [show (n % ((0 + 1 + 1 : Nat) : Int)).toNat = 1 by omega, show (k % ((0 + 1 + 1 : Nat) : Int)).toNat = 0 by omega] at e2
        simp at e2; omega
      · omega
end Go.Rse
