/-
  Plain: a run's combinations, the meanings of dots and pairs as one list.
-/
import Derived.Test.YtmbjfeaipblfcaaGreatDoorCmb0
namespace Go.Rse
open Go Go.Proofs
set_option linter.unusedVariables false
set_option linter.unusedSimpArgs false
/-- The lists that a combination chooses from, the last first. -/
def rP (m : Mn) (l : List Sg) : List (List Int) := List.replicate (prL m l).length [1, 2] ++ (mnsD m l).reverse
theorem digP_two (n : Int) (P : Nat) : digP n (P + 1) (P + 1) = digP (n / 2) P P ++ [if n % 2 = 0 then 1 else 2] := by
  unfold digP
  rw [List.range_succ, List.map_append]
  congr 1
  · refine List.map_congr_left fun j hj => ?_
    have hj := List.mem_range.1 hj
    unfold dig
    rw [show P + 1 - 1 - j = (P - 1 - j) + 1 by omega, Int.pow_succ, Int.mul_comm, ← Int.ediv_ediv_of_nonneg (by decide)]
  · simp [dig]
theorem ofG_two (A : List (List Int)) : ∀ (P : Nat) (n : Int), ofG (List.replicate P [1, 2] ++ A) n = ofG A (n / 2 ^ P) ++ digP n P P
  | 0, n => by simp [digP]
  | P + 1, n => by
    have ih := ofG_two A P (n / 2)
    rw [List.replicate_succ, List.cons_append]
    show ofG (List.replicate P [1, 2] ++ A) (n / 2) ++ [([1, 2] : List Int).getD (n % 2).toNat 0] = _
    rw [ih, digP_two, ← List.append_assoc, Int.ediv_ediv_of_nonneg (by decide), ← Int.mul_comm, ← Int.pow_succ]
    congr 2
    rcases Int.emod_two_eq n with h | h <;> rw [h] <;> rfl
theorem cntG_two : ∀ P : Nat, cntG (List.replicate P [1, 2]) = 2 ^ P
  | 0 => rfl
  | P + 1 => by
    rw [List.replicate_succ]
    show 2 * cntG (List.replicate P [1, 2]) = _
    rw [cntG_two P, Int.pow_succ, Int.mul_comm]
theorem asc_rP {m : Mn} {l : List Sg} (hM : ckM m = 0) (hck : ckD m l = 0) : ∀ x ∈ rP m l, Asc x := fun x hx => by
  unfold rP at hx
  rcases List.mem_append.1 hx with h | h
  · obtain ⟨_, rfl⟩ := List.mem_replicate.1 h
    exact .inr ⟨1, 2, rfl, by decide⟩
  · exact asc_ck hM hck x h
theorem cnt_rP {m : Mn} {l : List Sg} (h : ictE m l = 0) : ictV m l = cntG (rP m l) := by
  obtain ⟨hck, a, b, q2, q3, hV, h64, hc⟩ := ict_0 h
  unfold rP
  rw [cntG_append, cntG_two, hV, q3, cnt_G a, Int.mul_comm]
/-- A combination as one list. -/
def cmb (m : Mn) (l : List Sg) (n : Int) : List Int := iofD m l n ++ iofM m l n
theorem cmb_G {m : Mn} {l : List Sg} {n : Int} (h : iofE m l n = 0) : cmb m l n = ofG (rP m l) n := by
  unfold cmb iofD iofM rP
  rw [if_pos h, if_pos h, ofG_two, ofD_G]
theorem iof_ok {m : Mn} {l : List Sg} (h : ictE m l = 0) {i : Nat} (hi : (i : Int) < ictV m l) : iofE m l (i : Int) = 0 := by
  unfold iofE; rw [if_pos h, if_neg (by omega)]
theorem cmb_up {m : Mn} {l : List Sg} (hM : ckM m = 0) (hck : ckD m l = 0) (h : ictE m l = 0) {i : Nat} (hi : (i : Int) + 1 < ictV m l) : lessL (cmb m l (i : Int)) (cmb m l ((i : Int) + 1)) = true := by
  have h1 := iof_ok h (i := i) (by omega)
  have h2 := iof_ok h (i := i + 1) (by omega)
  rw [show ((i + 1 : Nat) : Int) = (i : Int) + 1 by omega] at h2
  rw [cmb_G h1, cmb_G h2]
  exact ofG_up (asc_rP hM hck) (by omega) (by rw [← cnt_rP h]; exact hi)
theorem iofD_lk {m : Mn} {l : List Sg} {n : Int} (h : iofE m l n = 0) : (iofD m l n).length = (mnsD m l).length := by
  unfold iofD; rw [if_pos h, ofD_G, ofG_len]; simp
theorem iofM_lk {m : Mn} {l : List Sg} {n : Int} (h : iofE m l n = 0) : (iofM m l n).length = (prL m l).length := by
  unfold iofM; rw [if_pos h, digP_len]
theorem chG_two {R : List (List Int)} {r : List Int} (h : ChG R r) : ∀ P : Nat, ChG (List.replicate P [1, 2] ++ R) (r ++ twos P)
  | 0 => by simpa [twos] using h
  | P + 1 => by
    have ih := chG_two h P
    rw [← twos_snoc, ← List.append_assoc, List.replicate_succ, List.cons_append]
    exact .snoc (by simp) ih
theorem rule_rP {m : Mn} {l : List Sg} (hM : ckM m = 0) (hck : ckD m l = 0) : ChG (rP m l) (ruleD m l ++ twos (prL m l).length) := chG_two (rule_ck hM hck) _
/-- The rule's combination has exactly one number. -/
theorem cmb_rule {m : Mn} {l : List Sg} (hM : ckM m = 0) (hck : ckD m l = 0) (h : ictE m l = 0) : ∃ n0 : Nat, (n0 : Int) < ictV m l ∧ ∀ i : Nat, (i : Int) < ictV m l → ((iofD m l (i : Int) = ruleD m l ∧ iofM m l (i : Int) = twos (prL m l).length) ↔ i = n0) := by
  have hA := asc_rP hM hck
  obtain ⟨n, h0, h1, h2⟩ := ofG_has (rule_rP hM hck) hA
  refine ⟨n.toNat, by rw [cnt_rP h]; omega, fun i hi => ?_⟩
  have he := iof_ok h hi
  have hG := cmb_G he
  constructor
  · rintro ⟨e1, e2⟩
    unfold cmb at hG
    rw [e1, e2] at hG
    have := ofG_inj hA (n := (i : Int)) (k := n) (by omega) (by rw [← cnt_rP h]; exact hi) h0 h1 (hG.symm.trans h2.symm)
    omega
  · intro e; subst e
    rw [Int.toNat_of_nonneg h0] at hG ⊢
    rw [h2] at hG
    unfold cmb at hG
    have hl : (iofD m l n).length = (ruleD m l).length := by
      rw [Int.toNat_of_nonneg h0] at he
      rw [iofD_lk he, rule_len]
    exact ⟨List.append_inj_left hG hl, List.append_inj_right hG hl⟩
theorem digP_ok (n : Int) (K j : Nat) : mnOk (digP n K j) = true := by
  unfold mnOk digP
  rw [List.all_eq_true]
  intro x hx
  obtain ⟨i, _, rfl⟩ := List.mem_map.1 hx
  unfold dig
  split <;> simp
/-- Each combination gives items. -/
theorem itm_ok {m : Mn} {l : List Sg} (hM : ckM m = 0) (hck : ckD m l = 0) {n : Int} (he : iofE m l n = 0) : itmE m l (iofD m l n) (iofM m l n) = 0 := by
  obtain ⟨hE, h0, h1⟩ := iof_0 he
  obtain ⟨_, a, b, q2, q3, hV, h64, hc⟩ := ict_0 hE
  have hmk : mkE m l (iofD m l n) = 0 := by
    have hq0 : 0 ≤ n / 2 ^ (prL m l).length := Int.ediv_nonneg h0 (by have := pow2_tab q2; omega)
    have hq1 : n / 2 ^ (prL m l).length < cntV m l := Int.ediv_lt_of_lt_mul (by have := pow2_tab q2; omega) (by rw [← q3, ← hV]; exact h1)
    have h := ch_ok (ofG_ch (asc_ck hM hck) hq0 (by rw [← cnt_G a]; exact hq1))
    unfold mkE iofD
    rw [if_pos hck, if_pos he, ofD_G, if_pos h]
  have hdu : duE m l (iofM m l n) = 0 := by
    unfold duE
    rw [if_pos hck, if_pos ⟨iofM_lk he, by unfold iofM; rw [if_pos he]; exact digP_ok _ _ _⟩]
  unfold itmE
  rw [if_pos hmk, hdu]
theorem ict_15 {m : Mn} {l : List Sg} (hck : ckD m l = 0) (h : ¬ ictE m l = 0) : ictE m l = 15 := by
  have h1 := (ict_law hck).1
  rw [h1] at h ⊢
  split
  · rfl
  · rename_i h2; rw [if_neg h2] at h; exact absurd rfl h
/-- The combination before. -/
def befC (m : Mn) (l : List Sg) : Nat → List Int
  | 0 => []
  | k + 1 => cmb m l (k : Int)
theorem befC_s (m : Mn) (l : List Sg) (k : Nat) : [] ++ iofD m l (k : Int) ++ iofM m l (k : Int) = befC m l (k + 1) := rfl
theorem befC_up {m : Mn} {l : List Sg} (hM : ckM m = 0) (hck : ckD m l = 0) (h : ictE m l = 0) {k : Nat} (hk : (k : Int) < ictV m l) (h0 : 0 < k) : lessL (befC m l k) ([] ++ iofD m l (k : Int) ++ iofM m l (k : Int)) = true := by
  obtain ⟨j, rfl⟩ : ∃ j, k = j + 1 := ⟨k - 1, by omega⟩
  exact cmb_up hM hck h (i := j) (by omega)
theorem ict_rng {m : Mn} {l : List Sg} (hM : ckM m = 0) (h : ictE m l = 0) : 1 ≤ ictV m l ∧ ictV m l ≤ 64 := by
  have h0 := ict_0 h
  exact ⟨by rw [cnt_rP h]; exact cntG_pos (asc_rP hM h0.1), h0.2.2.2.2.2.2.1⟩
theorem mnsD_le (m : Mn) (l : List Sg) : (mnsD m l).length ≤ l.length := by
  unfold mnsD; rw [List.length_map]; exact dotsK_len l l.length
end Go.Rse
