/-
  Plain: combinations by number rise in the lists' order, and each is had once (for any valid run).
-/
import Derived.Test.YtmbjfeaipblfcaaGreatDoorDotB
import Derived.Test.YtmbjfeaipblfcaaGreatDoorRefA
import Derived.Test.YtmbjfeaipblfcaaGreatDoorIteA
import Derived.Test.YtmbjfeaipblfcaaGreatDoorDurA
namespace Go.Rse
open Go Go.Proofs
set_option linter.unusedVariables false
set_option linter.unusedSimpArgs false
/-- The first place where the lists differ has a smaller number in a. -/
def lessL : List Int → List Int → Bool
  | x :: a, y :: b => if x = y then lessL a b else decide (x < y)
  | _, _ => false
theorem lessL_at {a b : List Int} {k : Nat} {x y : Int} (ha : a[k]? = some x) (hb : b[k]? = some y) : lessL (a.drop k) (b.drop k) = if x = y then lessL (a.drop (k + 1)) (b.drop (k + 1)) else decide (x < y) := by
  have h1 := (List.getElem?_eq_some_iff.1 ha)
  have h2 := (List.getElem?_eq_some_iff.1 hb)
  rw [List.drop_eq_getElem_cons h1.1, List.drop_eq_getElem_cons h2.1, h1.2, h2.2]; rfl
/-- The combination with a number, the lists given from the last one on. -/
def ofG : List (List Int) → Int → List Int
  | [], _ => []
  | x :: R, n => ofG R (n / (x.length : Int)) ++ [x.getD (n % (x.length : Int)).toNat 0]
def cntG : List (List Int) → Int
  | [] => 1
  | x :: R => (x.length : Int) * cntG R
theorem ofG_len : ∀ (R : List (List Int)) (n : Int), (ofG R n).length = R.length
  | [], _ => rfl
  | x :: R, n => by simp [ofG, ofG_len R]
theorem lessL_app : ∀ {a b : List Int} (c d : List Int), a.length = b.length → lessL a b = true → lessL (a ++ c) (b ++ d) = true
  | [], [], c, d, _, h => by simp [lessL] at h
  | [], _ :: _, c, d, hl, _ => by simp at hl
  | _ :: _, [], c, d, hl, _ => by simp at hl
  | x :: a, y :: b, c, d, hl, h => by
    simp only [lessL, List.cons_append] at h ⊢
    by_cases e : x = y
    · rw [if_pos e] at h ⊢; exact lessL_app c d (by simpa using hl) h
    · rw [if_neg e] at h ⊢; exact h
theorem lessL_same : ∀ (p : List Int) {x y : Int}, x < y → lessL (p ++ [x]) (p ++ [y]) = true
  | [], x, y, h => by
    simp only [List.nil_append, lessL]
    rw [if_neg (by omega)]; simpa using h
  | z :: p, x, y, h => by
    simp only [List.cons_append, lessL, if_true]; exact lessL_same p h
/-- One or two, ascending. -/
def Asc (x : List Int) : Prop := (∃ a, x = [a]) ∨ (∃ a b, x = [a, b] ∧ a < b)
theorem Asc.len {x : List Int} (h : Asc x) : x.length = 1 ∨ x.length = 2 := by
  rcases h with ⟨a, rfl⟩ | ⟨a, b, rfl, _⟩
  · exact .inl rfl
  · exact .inr rfl
theorem cntG_pos : ∀ {R : List (List Int)}, (∀ x ∈ R, Asc x) → 1 ≤ cntG R
  | [], _ => by simp [cntG]
  | x :: R, h => by
    have h1 := (h x (by simp)).len
    have h2 := cntG_pos (R := R) fun y hy => h y (by simp [hy])
    simp only [cntG]
    rcases h1 with e | e <;> rw [e] <;> omega
theorem ofG_up : ∀ {R : List (List Int)}, (∀ x ∈ R, Asc x) → ∀ {n : Int}, 0 ≤ n → n + 1 < cntG R → lessL (ofG R n) (ofG R (n + 1)) = true
  | [], _, n, h0, h1 => by simp [cntG] at h1; omega
  | x :: R, h, n, h0, h1 => by
    have hR : ∀ y ∈ R, Asc y := fun y hy => h y (by simp [hy])
    simp only [cntG] at h1
    simp only [ofG]
    rcases h x (by simp) with ⟨a, rfl⟩ | ⟨a, b, rfl, hab⟩
    · simp only [List.length_cons, List.length_nil] at h1 ⊢
      refine lessL_app _ _ (by rw [ofG_len, ofG_len]) ?_
      have e1 : n / ((0 + 1 : Nat) : Int) = n := by omega
      have e2 : (n + 1) / ((0 + 1 : Nat) : Int) = n + 1 := by omega
      rw [e1, e2]
      exact ofG_up hR h0 (by omega)
    · simp only [List.length_cons, List.length_nil] at h1 ⊢
      rcases Int.emod_two_eq n with e | e
      · have e1 : (n + 1) / ((0 + 1 + 1 : Nat) : Int) = n / ((0 + 1 + 1 : Nat) : Int) := by omega
        have e2 : (n % ((0 + 1 + 1 : Nat) : Int)).toNat = 0 := by omega
        have e3 : ((n + 1) % ((0 + 1 + 1 : Nat) : Int)).toNat = 1 := by omega
        rw [e1, e2, e3]
        exact lessL_same _ hab
      · have e1 : (n + 1) / ((0 + 1 + 1 : Nat) : Int) = n / ((0 + 1 + 1 : Nat) : Int) + 1 := by omega
        rw [e1]
        refine lessL_app _ _ (by rw [ofG_len, ofG_len]) (ofG_up hR (by omega) (by omega))
/-- A choice of one out of each list. -/
inductive ChG : List (List Int) → List Int → Prop
  | nil : ChG [] []
  | snoc {x : List Int} {R : List (List Int)} {r : List Int} {v : Int} (hv : v ∈ x) (h : ChG R r) : ChG (x :: R) (r ++ [v])
theorem ofG_ch : ∀ {R : List (List Int)}, (∀ x ∈ R, Asc x) → ∀ {n : Int}, 0 ≤ n → n < cntG R → ChG R (ofG R n)
  | [], _, n, _, _ => .nil
  | x :: R, h, n, h0, h1 => by
    have hR : ∀ y ∈ R, Asc y := fun y hy => h y (by simp [hy])
    simp only [cntG] at h1
    simp only [ofG]
    have hl := (h x (by simp)).len
    have hm0 : 0 ≤ n % (x.length : Int) := Int.emod_nonneg _ (by omega)
    have hm1 : n % (x.length : Int) < (x.length : Int) := Int.emod_lt_of_pos _ (by omega)
    refine .snoc ?_ (ofG_ch hR (Int.ediv_nonneg h0 (by omega)) (Int.ediv_lt_of_lt_mul (by omega) (by rw [Int.mul_comm]; exact h1)))
    rw [List.getD_eq_getElem?_getD, List.getElem?_eq_getElem (by omega)]
    exact List.getElem_mem _
theorem ofG_has {R : List (List Int)} {r : List Int} (hc : ChG R r) : (∀ x ∈ R, Asc x) → ∃ n : Int, 0 ≤ n ∧ n < cntG R ∧ ofG R n = r := by
  induction hc with
  | nil => exact fun _ => ⟨0, by omega, by simp [cntG], rfl⟩
  | @snoc x R r v hv _ ih =>
    intro h
    have hR : ∀ y ∈ R, Asc y := fun y hy => h y (by simp [hy])
    obtain ⟨n, h0, h1, h2⟩ := ih hR
    rcases h x (by simp) with ⟨a, rfl⟩ | ⟨a, b, rfl, hab⟩
    · refine ⟨n, h0, by simp only [cntG, List.length_cons, List.length_nil]; omega, ?_⟩
      simp only [ofG, List.length_cons, List.length_nil]
      have e1 : n / ((0 + 1 : Nat) : Int) = n := by omega
      have e2 : (n % ((0 + 1 : Nat) : Int)).toNat = 0 := by omega
      rw [e1, e2, h2]
      simp at hv; subst hv; rfl
    · simp at hv
      rcases hv with rfl | rfl
      · refine ⟨2 * n, by omega, by simp only [cntG, List.length_cons, List.length_nil]; omega, ?_⟩
        simp only [ofG, List.length_cons, List.length_nil]
        have e1 : 2 * n / ((0 + 1 + 1 : Nat) : Int) = n := by omega
        have e2 : (2 * n % ((0 + 1 + 1 : Nat) : Int)).toNat = 0 := by omega
        rw [e1, e2, h2]; rfl
      · refine ⟨2 * n + 1, by omega, by simp only [cntG, List.length_cons, List.length_nil]; omega, ?_⟩
        simp only [ofG, List.length_cons, List.length_nil]
        have e1 : (2 * n + 1) / ((0 + 1 + 1 : Nat) : Int) = n := by omega
        have e2 : ((2 * n + 1) % ((0 + 1 + 1 : Nat) : Int)).toNat = 1 := by omega
        rw [e1, e2, h2]; rfl
theorem ofRow_G (L : List (List Int)) (n : Int) : ∀ (d j : Nat), j + d = L.length → ofRow L n L.length = ofG (L.take d).reverse (ofN L n j) ++ ofRow L n j
  | 0, j, h => by
    have : j = L.length := by omega
    subst this; simp [ofG]
  | d + 1, j, h => by
    have hd : L[d]? = some L[d] := List.getElem?_eq_getElem (by omega)
    have hg : L.getD (L.length - 1 - j) [] = L[d] := by
      rw [show L.length - 1 - j = d by omega, List.getD_eq_getElem?_getD, hd]; rfl
    rw [ofRow_G L n d (j + 1) (by omega), List.take_add_one, hd]
    simp only [Option.toList_some, List.reverse_append, List.reverse_cons, List.reverse_nil, List.nil_append, List.cons_append, ofG, ofRow, ofN, ofV, hg, List.append_assoc]
theorem ofD_G (L : List (List Int)) (n : Int) : ofD L n = ofG L.reverse n := by
  have := ofRow_G L n L.length 0 (by omega)
  rw [List.take_length] at this
  simpa [ofD, ofRow, ofN] using this
theorem cntG_append : ∀ (A B : List (List Int)), cntG (A ++ B) = cntG A * cntG B
  | [], B => by simp [cntG]
  | x :: A, B => by simp only [List.cons_append, cntG, cntG_append A B, Int.mul_assoc]
theorem cntG_rev : ∀ (L : List (List Int)), cntG L.reverse = cntG L
  | [] => rfl
  | x :: L => by
    rw [List.reverse_cons, cntG_append, cntG_rev L]
    simp only [cntG, Int.mul_one]; exact Int.mul_comm _ _
theorem cntF_prod : ∀ {L : List (List Int)} {n : Int}, cntF n L ≤ 64 → cntF n L = n * cntG L
  | [], n, h => by simp [cntF, cntG]
  | x :: L, n, h => by
    unfold cntF at h ⊢
    split at h
    · omega
    · rename_i h1
      rw [if_neg h1, cntF_prod h]
      simp only [cntG, Int.mul_assoc]
theorem cnt_G {m : Mn} {l : List Sg} (h : cntE m l = 0) : cntV m l = cntG (mnsD m l).reverse := by
  have hc := cntE_ck h
  unfold cntE at h
  rw [if_pos hc] at h
  unfold cntV
  rw [if_pos hc]
  by_cases h1 : cntF 1 (mnsD m l) > 64
  · rw [if_pos h1] at h; simp at h
  · rw [if_neg h1, cntG_rev, cntF_prod (by omega), Int.one_mul]
theorem ch_of {L : List (List Int)} {c : List Int} (hl : L.length = c.length) (h : ∀ (i : Nat) x v, L[i]? = some x → c[i]? = some v → v ∈ x) : ∀ k, k ≤ L.length → ChG (L.take k).reverse (c.take k)
  | 0, _ => by simpa using ChG.nil
  | k + 1, hk => by
    have hx : L[k]? = some L[k] := List.getElem?_eq_getElem (by omega)
    have hv : c[k]? = some c[k] := List.getElem?_eq_getElem (by omega)
    rw [List.take_add_one, List.take_add_one, hx, hv]
    simp only [Option.toList_some, List.reverse_append, List.reverse_cons, List.reverse_nil, List.nil_append, List.cons_append]
    exact .snoc (h k _ _ hx hv) (ch_of hl h k (by omega))
theorem ch_mem {R : List (List Int)} {r : List Int} (hc : ChG R r) : r.length = R.length ∧ ∀ (i : Nat) x v, R.reverse[i]? = some x → r[i]? = some v → v ∈ x := by
  induction hc with
  | nil => exact ⟨rfl, fun i x v h => by simp at h⟩
  | @snoc x0 R r v0 hv _ ih =>
    refine ⟨by simp [ih.1], fun i x v hx hvv => ?_⟩
    rw [List.reverse_cons, List.getElem?_append] at hx
    rw [List.getElem?_append] at hvv
    simp only [List.length_reverse] at hx
    by_cases hi : i < R.length
    · rw [if_pos hi] at hx
      rw [if_pos (by omega)] at hvv
      exact ih.2 i x v hx hvv
    · rw [if_neg hi] at hx
      rw [if_neg (by omega)] at hvv
      have e1 : i - R.length = 0 := by
        have := (List.getElem?_eq_some_iff.1 hx).1
        simp at this; omega
      rw [e1] at hx
      rw [ih.1, e1] at hvv
      simp at hx hvv
      subst hx; subst hvv; exact hv
theorem ch_ok {L : List (List Int)} {r : List Int} (hc : ChG L.reverse r) : L.length = r.length ∧ chOk r L := by
  obtain ⟨h1, h2⟩ := ch_mem hc
  rw [List.reverse_reverse] at h2
  exact ⟨by simpa using h1.symm, chOk_iff.2 h2⟩
theorem ofG_inj : ∀ {R : List (List Int)}, (∀ x ∈ R, Asc x) → ∀ {n k : Int}, 0 ≤ n → n < cntG R → 0 ≤ k → k < cntG R → ofG R n = ofG R k → n = k
  | [], _, n, k, h0, h1, h2, h3, _ => by simp [cntG] at h1 h3; omega
  | x :: R, h, n, k, h0, h1, h2, h3, e => by
    have hR : ∀ y ∈ R, Asc y := fun y hy => h y (by simp [hy])
    simp only [cntG] at h1 h3
    simp only [ofG] at e
    obtain ⟨e1, e2⟩ := List.append_inj e (by rw [ofG_len, ofG_len])
    simp only [List.cons.injEq, and_true] at e2
    rcases h x (by simp) with ⟨a, rfl⟩ | ⟨a, b, rfl, hab⟩
    · simp only [List.length_cons, List.length_nil] at h1 h3 e1
      have := ofG_inj hR (by omega) (by omega) (by omega) (by omega) e1
      omega
    · simp only [List.length_cons, List.length_nil] at h1 h3 e1 e2
      have hq := ofG_inj hR (by omega) (by omega) (by omega) (by omega) e1
      rcases Int.emod_two_eq n with q | q <;> rcases Int.emod_two_eq k with q' | q'
      · omega
      · exfalso
        rw [show (n % ((0 + 1 + 1 : Nat) : Int)).toNat = 0 by omega, show (k % ((0 + 1 + 1 : Nat) : Int)).toNat = 1 by omega] at e2
        simp at e2; omega
      · exfalso
        rw [show (n % ((0 + 1 + 1 : Nat) : Int)).toNat = 1 by omega, show (k % ((0 + 1 + 1 : Nat) : Int)).toNat = 0 by omega] at e2
        simp at e2; omega
      · omega
/-- A dot's meanings: one, which the rule takes, or two, ascending, of which the rule takes one. -/
def TwoOk (x : List Int) (c : Int) : Prop := (∃ a, x = [a] ∧ c = a) ∨ (∃ a b, x = [a, b] ∧ a < b ∧ (c = a ∨ c = b))
theorem choiceR_two {m : Mn} {l : List Sg} {i : Int} {p : Sg} (hM : ckM m = 0) (h1 : 1 ≤ p.Value) : TwoOk (mngR m p) (choiceR m l i p) := by
  have ha := aV_rng (m := m) h1
  unfold choiceR mngR
  by_cases hK : p.Kind = 2
  · simp only [hK, if_true]; exact .inl ⟨_, rfl, by simp⟩
  · simp only [hK, if_false]
    by_cases hC : p.Color = true
    · simp only [hC, if_true]; exact .inl ⟨0, rfl, by simp⟩
    · simp only [hC, if_false]
      by_cases h2 : m.p p.Value = 2 ∧ m.aV p.Value = 0
      · simp only [h2, and_self, if_true]; exact .inl ⟨0, rfl, by simp⟩
      · rw [if_neg h2]
        by_cases h3 : m.p p.Value = 2
        · have h4 : ¬ m.aV p.Value = 0 := fun h => h2 ⟨h3, h⟩
          rw [if_pos h3]
          refine .inr ⟨0, m.aV p.Value, rfl, by omega, ?_⟩
          rw [if_neg (by simp)]
          by_cases h5 : nextV l i > p.Value
          · rw [if_pos h5]; exact .inl (by simp [ownV])
          · rw [if_neg h5]; exact .inr rfl
        · rw [if_neg h3]
          by_cases h4 : m.aV p.Value = 0
          · rw [if_pos h4]; exact .inl ⟨p.Value, rfl, by simp⟩
          · rw [if_neg h4]
            refine .inr ⟨m.aV p.Value, p.Value, rfl, ha.2, ?_⟩
            rw [if_neg (by simp)]
            by_cases h5 : nextV l i > p.Value
            · rw [if_pos h5]
              have h6 : ¬ m.aV p.Value = p.Value := by omega
              exact .inr (by simp [ownV, h4, h6])
            · rw [if_neg h5]; exact .inl rfl
theorem two_ck {m : Mn} {l : List Sg} (hM : ckM m = 0) (hck : ckD m l = 0) {k : Nat} {x : List Int} {c : Int} (hx : (mnsD m l)[k]? = some x) (hc : (ruleD m l)[k]? = some c) : TwoOk x c := by
  rw [mnsD, List.getElem?_map] at hx
  rw [ruleD, List.getElem?_map] at hc
  cases hd : (dotsK l l.length)[k]? with
  | none => simp [hd] at hx
  | some i =>
    simp [hd] at hx hc
    obtain ⟨j, s, p, h1, h2, h3, h4, h5⟩ := dotPrev hck (List.mem_of_getElem? hd)
    obtain ⟨_, _, q1, q2, _, q3⟩ := prevOk hck h2 h3 h4
    unfold mnAt at hx; rw [h5] at hx
    unfold ruleAt at hc; rw [h5] at hc
    have hx : mngs m p = x := hx
    have hc : choice m l i p = c := hc
    rw [← hx, ← hc, choice_R hM q1 q2 q3, q3]
    exact choiceR_two hM q1
theorem rule_len (m : Mn) (l : List Sg) : (ruleD m l).length = (mnsD m l).length := by
  unfold ruleD mnsD; simp
theorem asc_ck {m : Mn} {l : List Sg} (hM : ckM m = 0) (hg : ckD m l = 0) : ∀ x ∈ (mnsD m l).reverse, Asc x := by
  intro x hx
  rw [List.mem_reverse] at hx
  obtain ⟨k, hk⟩ := List.mem_iff_getElem?.1 hx
  have hlen := rule_len m l
  obtain ⟨c, hc⟩ : ∃ c, (ruleD m l)[k]? = some c := ⟨_, List.getElem?_eq_getElem (by have := (List.getElem?_eq_some_iff.1 hk).1; omega)⟩
  rcases two_ck hM hg hk hc with ⟨a, rfl, _⟩ | ⟨a, b, rfl, hab, _⟩
  · exact .inl ⟨a, rfl⟩
  · exact .inr ⟨a, b, rfl, hab⟩
theorem rule_ck {m : Mn} {l : List Sg} (hM : ckM m = 0) (hg : ckD m l = 0) : ChG (mnsD m l).reverse (ruleD m l) := by
  have hlen := rule_len m l
  have h := ch_of (L := mnsD m l) (c := ruleD m l) hlen.symm (fun i x v hx hv => by
    rcases two_ck hM hg hx hv with ⟨a, rfl, rfl⟩ | ⟨a, b, rfl, hab, rfl | rfl⟩ <;> simp) (mnsD m l).length (Nat.le_refl _)
  rwa [List.take_length, ← hlen, List.take_length] at h
/-- How many of the first k numbers are n0. -/
def fnd (n0 : Nat) : Nat → Int
  | 0 => 0
  | k + 1 => if k = n0 then fnd n0 k + 1 else fnd n0 k
theorem fnd_yes {n0 k : Nat} (h : k = n0) : fnd n0 k + 1 = fnd n0 (k + 1) := by
  conv => rhs; unfold fnd
  rw [if_pos h]
theorem fnd_no {n0 k : Nat} (h : ¬ k = n0) : fnd n0 k = fnd n0 (k + 1) := by
  conv => rhs; unfold fnd
  rw [if_neg h]
theorem fnd_eq (n0 : Nat) : ∀ k, fnd n0 k = if n0 < k then 1 else 0
  | 0 => rfl
  | k + 1 => by
    simp only [fnd, fnd_eq n0 k]
    by_cases h : k = n0
    · subst h; simp
    · rw [if_neg h]
      by_cases h2 : n0 < k
      · rw [if_pos h2, if_pos (by omega)]
      · rw [if_neg h2, if_neg (by omega)]
theorem fnd_rng (n0 k : Nat) : 0 ≤ fnd n0 k ∧ fnd n0 k ≤ 1 := by
  rw [fnd_eq]; split <;> omega
/-- The combination before number k. -/
def befN (L : List (List Int)) : Nat → List Int
  | 0 => []
  | k + 1 => ofD L (k : Int)
theorem ofD_len2 (L : List (List Int)) (n : Int) : (ofD L n).length = L.length := ofRow_len L n L.length
end Go.Rse
