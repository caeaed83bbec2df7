/-
  Plain: combinations by number rise in the lists' order, and each is had once (for any valid run).
-/
import Derived.Test.YtmbjfeaipblfcaaGreatDoorTDotB
import Derived.Test.YtmbjfeaipblfcaaGreatDoorTRefA
import Derived.Test.YtmbjfeaipblfcaaGreatDoorTIteA
import Derived.Test.YtmbjfeaipblfcaaGreatDoorTDurA
namespace Go.Rse
open Go Go.Proofs
set_option linter.unusedVariables false
set_option linter.unusedSimpArgs false
/-- The combination with a number, the lists given from the last one on. -/
def ofG : List (List Int) → Int → List Int
  | [], _ => []
  | x :: R, n => ofG R (n / (x.length : Int)) ++ [x.getD (n % (x.length : Int)).toNat 0]
def cntG : List (List Int) → Int
  | [] => 1
  | x :: R => (x.length : Int) * cntG R
theorem ofG_len : ∀ (R : List (List Int)) (n : Int), (ofG R n).length = R.length
  | [], _ => rfl
  | x :: R, n => by simp [ofG, ofG_len R]
/-- One or two, ascending. -/
def Asc (x : List Int) : Prop := (∃ a, x = [a]) ∨ (∃ a b, x = [a, b] ∧ a < b)
theorem Asc.len {x : List Int} (h : Asc x) : x.length = 1 ∨ x.length = 2 := by
  rcases h with ⟨a, rfl⟩ | ⟨a, b, rfl, _⟩
  · exact .inl rfl
  · exact .inr rfl
theorem cntG_pos : ∀ {R : List (List Int)}, (∀ x ∈ R, Asc x) → 1 ≤ cntG R
  | [], _ => by simp [cntG]
  | x :: R, h => by
    have h1 := (h x (by simp)).len
    have h2 := cntG_pos (R := R) fun y hy => h y (by simp [hy])
    simp only [cntG]
    rcases h1 with e | e <;> rw [e] <;> omega
/-- A choice of one out of each list. -/
inductive ChG : List (List Int) → List Int → Prop
  | nil : ChG [] []
  | snoc {x : List Int} {R : List (List Int)} {r : List Int} {v : Int} (hv : v ∈ x) (h : ChG R r) : ChG (x :: R) (r ++ [v])
theorem ofG_ch : ∀ {R : List (List Int)}, (∀ x ∈ R, Asc x) → ∀ {n : Int}, 0 ≤ n → n < cntG R → ChG R (ofG R n)
  | [], _, n, _, _ => .nil
  | x :: R, h, n, h0, h1 => by
    have hR : ∀ y ∈ R, Asc y := fun y hy => h y (by simp [hy])
    simp only [cntG] at h1
    simp only [ofG]
    have hl := (h x (by simp)).len
    have hm0 : 0 ≤ n % (x.length : Int) := Int.emod_nonneg _ (by omega)
    have hm1 : n % (x.length : Int) < (x.length : Int) := Int.emod_lt_of_pos _ (by omega)
    refine .snoc ?_ (ofG_ch hR (Int.ediv_nonneg h0 (by omega)) (Int.ediv_lt_of_lt_mul (by omega) (by rw [Int.mul_comm]; exact h1)))
    rw [List.getD_eq_getElem?_getD, List.getElem?_eq_getElem (by omega)]
    exact List.getElem_mem _
theorem ofRow_G (L : List (List Int)) (n : Int) : ∀ (d j : Nat), j + d = L.length → ofRow L n L.length = ofG (L.take d).reverse (ofN L n j) ++ ofRow L n j
  | 0, j, h => by
    have : j = L.length := by omega
    subst this; simp [ofG]
  | d + 1, j, h => by
    have hd : L[d]? = some L[d] := List.getElem?_eq_getElem (by omega)
    have hg : L.getD (L.length - 1 - j) [] = L[d] := by
      rw [show L.length - 1 - j = d by omega, List.getD_eq_getElem?_getD, hd]; rfl
    rw [ofRow_G L n d (j + 1) (by omega), List.take_add_one, hd]
    simp only [Option.toList_some, List.reverse_append, List.reverse_cons, List.reverse_nil, List.nil_append, List.cons_append, ofG, ofRow, ofN, ofV, hg, List.append_assoc]
theorem ofD_G (L : List (List Int)) (n : Int) : ofD L n = ofG L.reverse n := by
  have := ofRow_G L n L.length 0 (by omega)
  rw [List.take_length] at this
  simpa [ofD, ofRow, ofN] using this
theorem cntG_append : ∀ (A B : List (List Int)), cntG (A ++ B) = cntG A * cntG B
  | [], B => by simp [cntG]
  | x :: A, B => by simp only [List.cons_append, cntG, cntG_append A B, Int.mul_assoc]
theorem cntG_rev : ∀ (L : List (List Int)), cntG L.reverse = cntG L
  | [] => rfl
  | x :: L => by
    rw [List.reverse_cons, cntG_append, cntG_rev L]
    simp only [cntG, Int.mul_one]; exact Int.mul_comm _ _
theorem cntF_prod : ∀ {L : List (List Int)} {n : Int}, cntF n L ≤ 64 → cntF n L = n * cntG L
  | [], n, h => by simp [cntF, cntG]
  | x :: L, n, h => by
    unfold cntF at h ⊢
    split at h
    · omega
    · rename_i h1
      rw [if_neg h1, cntF_prod h]
      simp only [cntG, Int.mul_assoc]
theorem cnt_G {m : Mn} {l : List Sg} (h : cntE m l = 0) : cntV m l = cntG (mnsD m l).reverse := by
  have hc := cntE_ck h
  unfold cntE at h
  rw [if_pos hc] at h
  unfold cntV
  rw [if_pos hc]
  by_cases h1 : cntF 1 (mnsD m l) > 64
  · rw [if_pos h1] at h; simp at h
  · rw [if_neg h1, cntG_rev, cntF_prod (by omega), Int.one_mul]
theorem ch_mem {R : List (List Int)} {r : List Int} (hc : ChG R r) : r.length = R.length ∧ ∀ (i : Nat) x v, R.reverse[i]? = some x → r[i]? = some v → v ∈ x := by
  induction hc with
  | nil => exact ⟨rfl, fun i x v h => by simp at h⟩
  | @snoc x0 R r v0 hv _ ih =>
    refine ⟨by simp [ih.1], fun i x v hx hvv => ?_⟩
    rw [List.reverse_cons, List.getElem?_append] at hx
    rw [List.getElem?_append] at hvv
    simp only [List.length_reverse] at hx
    by_cases hi : i < R.length
    · rw [if_pos hi] at hx
      rw [if_pos (by omega)] at hvv
      exact ih.2 i x v hx hvv
    · rw [if_neg hi] at hx
      rw [if_neg (by omega)] at hvv
      have e1 : i - R.length = 0 := by
        have := (List.getElem?_eq_some_iff.1 hx).1
        simp at this; omega
      rw [e1] at hx
      rw [ih.1, e1] at hvv
      simp at hx hvv
      subst hx; subst hvv; exact hv
theorem ch_ok {L : List (List Int)} {r : List Int} (hc : ChG L.reverse r) : L.length = r.length ∧ chOk r L := by
  obtain ⟨h1, h2⟩ := ch_mem hc
  rw [List.reverse_reverse] at h2
  exact ⟨by simpa using h1.symm, chOk_iff.2 h2⟩
/-- A dot's meanings: one, which the rule takes, or two, ascending, of which the rule takes one. -/
def TwoOk (x : List Int) (c : Int) : Prop := (∃ a, x = [a] ∧ c = a) ∨ (∃ a b, x = [a, b] ∧ a < b ∧ (c = a ∨ c = b))
theorem choiceR_two {m : Mn} {l : List Sg} {i : Int} {p : Sg} (hM : ckM m = 0) (h1 : 1 ≤ p.Value) : TwoOk (mngR m p) (choiceR m l i p) := by
  have ha := aV_rng (m := m) h1
  unfold choiceR mngR
  by_cases hK : p.Kind = 2
  · simp only [hK, if_true]; exact .inl ⟨_, rfl, by simp⟩
  · simp only [hK, if_false]
    by_cases hC : p.Color = true
    · simp only [hC, if_true]; exact .inl ⟨0, rfl, by simp⟩
    · simp only [hC, if_false]
      by_cases h2 : m.p p.Value = 2 ∧ m.aV p.Value = 0
      · simp only [h2, and_self, if_true]; exact .inl ⟨0, rfl, by simp⟩
      · rw [if_neg h2]
        by_cases h3 : m.p p.Value = 2
        · have h4 : ¬ m.aV p.Value = 0 := fun h => h2 ⟨h3, h⟩
          rw [if_pos h3]
          refine .inr ⟨0, m.aV p.Value, rfl, by omega, ?_⟩
          rw [if_neg (by simp)]
          by_cases h5 : nextV l i > p.Value
          · rw [if_pos h5]; exact .inl (by simp [ownV])
          · rw [if_neg h5]; exact .inr rfl
        · rw [if_neg h3]
          by_cases h4 : m.aV p.Value = 0
          · rw [if_pos h4]; exact .inl ⟨p.Value, rfl, by simp⟩
          · rw [if_neg h4]
            refine .inr ⟨m.aV p.Value, p.Value, rfl, ha.2, ?_⟩
            rw [if_neg (by simp)]
            by_cases h5 : nextV l i > p.Value
            · rw [if_pos h5]
              have h6 : ¬ m.aV p.Value = p.Value := by omega
              exact .inr (by simp [ownV, h4, h6])
            · rw [if_neg h5]; exact .inl rfl
theorem two_ck {m : Mn} {l : List Sg} (hM : ckM m = 0) (hck : ckD m l = 0) {k : Nat} {x : List Int} {c : Int} (hx : (mnsD m l)[k]? = some x) (hc : (ruleD m l)[k]? = some c) : TwoOk x c := by
  rw [mnsD, List.getElem?_map] at hx
  rw [ruleD, List.getElem?_map] at hc
  cases hd : (dotsK l l.length)[k]? with
  | none => simp [hd] at hx
  | some i =>
    simp [hd] at hx hc
    obtain ⟨j, s, p, h1, h2, h3, h4, h5⟩ := dotPrev hck (List.mem_of_getElem? hd)
    obtain ⟨_, _, q1, q2, _, q3⟩ := prevOk hck h2 h3 h4
    unfold mnAt at hx; rw [h5] at hx
    unfold ruleAt at hc; rw [h5] at hc
    have hx : mngs m p = x := hx
    have hc : choice m l i p = c := hc
    rw [← hx, ← hc, choice_R hM q1 q2 q3, q3]
    exact choiceR_two hM q1
theorem rule_len (m : Mn) (l : List Sg) : (ruleD m l).length = (mnsD m l).length := by
  unfold ruleD mnsD; simp
theorem asc_ck {m : Mn} {l : List Sg} (hM : ckM m = 0) (hg : ckD m l = 0) : ∀ x ∈ (mnsD m l).reverse, Asc x := by
  intro x hx
  rw [List.mem_reverse] at hx
  obtain ⟨k, hk⟩ := List.mem_iff_getElem?.1 hx
  have hlen := rule_len m l
  obtain ⟨c, hc⟩ : ∃ c, (ruleD m l)[k]? = some c := ⟨_, List.getElem?_eq_getElem (by have := (List.getElem?_eq_some_iff.1 hk).1; omega)⟩
  rcases two_ck hM hg hk hc with ⟨a, rfl, _⟩ | ⟨a, b, rfl, hab, _⟩
  · exact .inl ⟨a, rfl⟩
  · exact .inr ⟨a, b, rfl, hab⟩
end Go.Rse
