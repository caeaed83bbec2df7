/-
  Plain: a run's combinations, the meanings of dots and pairs as one list.
-/
import Derived.Test.YtmbjfeaipblfcaaGreatDoorTCmb0
namespace Go.Rse
open Go Go.Proofs
set_option linter.unusedVariables false
set_option linter.unusedSimpArgs false
/-- The lists that a combination chooses from, the last first. -/
def rP (m : Mn) (l : List Sg) : List (List Int) := List.replicate (prL m l).length [1, 2] ++ (mnsD m l).reverse
theorem cntG_two : ∀ P : Nat, cntG (List.replicate P [1, 2]) = 2 ^ P
  | 0 => rfl
  | P + 1 => by
    rw [List.replicate_succ]
    show 2 * cntG (List.replicate P [1, 2]) = _
    rw [cntG_two P, Int.pow_succ, Int.mul_comm]
theorem asc_rP {m : Mn} {l : List Sg} (hM : ckM m = 0) (hck : ckD m l = 0) : ∀ x ∈ rP m l, Asc x := fun x hx => by
  unfold rP at hx
  rcases List.mem_append.1 hx with h | h
  · obtain ⟨_, rfl⟩ := List.mem_replicate.1 h
    exact .inr ⟨1, 2, rfl, by decide⟩
  · exact asc_ck hM hck x h
theorem cnt_rP {m : Mn} {l : List Sg} (h : ictE m l = 0) : ictV m l = cntG (rP m l) := by
  obtain ⟨hck, a, b, q2, q3, hV, h64, hc⟩ := ict_0 h
  unfold rP
  rw [cntG_append, cntG_two, hV, q3, cnt_G a, Int.mul_comm]
theorem iof_ok {m : Mn} {l : List Sg} (h : ictE m l = 0) {i : Nat} (hi : (i : Int) < ictV m l) : iofE m l (i : Int) = 0 := by
  unfold iofE; rw [if_pos h, if_neg (by omega)]
theorem iofD_lk {m : Mn} {l : List Sg} {n : Int} (h : iofE m l n = 0) : (iofD m l n).length = (mnsD m l).length := by
  unfold iofD; rw [if_pos h, ofD_G, ofG_len]; simp
theorem iofM_lk {m : Mn} {l : List Sg} {n : Int} (h : iofE m l n = 0) : (iofM m l n).length = (prL m l).length := by
  unfold iofM; rw [if_pos h, digP_len]
theorem digP_ok (n : Int) (K j : Nat) : mnOk (digP n K j) = true := by
  unfold mnOk digP
  rw [List.all_eq_true]
  intro x hx
  obtain ⟨i, _, rfl⟩ := List.mem_map.1 hx
  unfold dig
  split <;> simp
/-- Each combination gives items. -/
theorem itm_ok {m : Mn} {l : List Sg} (hM : ckM m = 0) (hck : ckD m l = 0) {n : Int} (he : iofE m l n = 0) : itmE m l (iofD m l n) (iofM m l n) = 0 := by
  obtain ⟨hE, h0, h1⟩ := iof_0 he
  obtain ⟨_, a, b, q2, q3, hV, h64, hc⟩ := ict_0 hE
  have hmk : mkE m l (iofD m l n) = 0 := by
    have hq0 : 0 ≤ n / 2 ^ (prL m l).length := Int.ediv_nonneg h0 (by have := pow2_tab q2; omega)
    have hq1 : n / 2 ^ (prL m l).length < cntV m l := Int.ediv_lt_of_lt_mul (by have := pow2_tab q2; omega) (by rw [← q3, ← hV]; exact h1)
    have h := ch_ok (ofG_ch (asc_ck hM hck) hq0 (by rw [← cnt_G a]; exact hq1))
    unfold mkE iofD
    rw [if_pos hck, if_pos he, ofD_G, if_pos h]
  have hdu : duE m l (iofM m l n) = 0 := by
    unfold duE
    rw [if_pos hck, if_pos ⟨iofM_lk he, by unfold iofM; rw [if_pos he]; exact digP_ok _ _ _⟩]
  unfold itmE
  rw [if_pos hmk, hdu]
theorem ict_15 {m : Mn} {l : List Sg} (hck : ckD m l = 0) (h : ¬ ictE m l = 0) : ictE m l = 15 := by
  have h1 := (ict_law hck).1
  rw [h1] at h ⊢
  split
  · rfl
  · rename_i h2; rw [if_neg h2] at h; exact absurd rfl h
theorem ict_rng {m : Mn} {l : List Sg} (hM : ckM m = 0) (h : ictE m l = 0) : 1 ≤ ictV m l ∧ ictV m l ≤ 64 := by
  have h0 := ict_0 h
  exact ⟨by rw [cnt_rP h]; exact cntG_pos (asc_rP hM h0.1), h0.2.2.2.2.2.2.1⟩
theorem mnsD_le (m : Mn) (l : List Sg) : (mnsD m l).length ≤ l.length := by
  unfold mnsD; rw [List.length_map]; exact dotsK_len l l.length
end Go.Rse
