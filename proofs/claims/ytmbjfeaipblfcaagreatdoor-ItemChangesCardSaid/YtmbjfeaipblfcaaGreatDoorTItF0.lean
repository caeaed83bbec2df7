/-
  Plain: what an item of a run is, by its number.
-/
import Derived.Test.YtmbjfeaipblfcaaGreatDoorTIteA
namespace Go.Rse
open Go Go.Proofs
set_option linter.unusedVariables false
set_option linter.unusedSimpArgs false
theorem it_idx {l : List Sg} {c : List Int} {a : List Bool} {d : List Tm} : ∀ (n : Nat) {i : Nat} {x : Ite}, (itK l c a d n)[i]? = some x → ∃ (k : Nat) (s : Sg), k < n ∧ l[k]? = some s ∧ ¬ s.Kind = 3 ∧ ntN l k = i ∧ x = itOf k s (c.getD i 0) (a.getD i false) (d.getD i ⟨0, 0⟩)
  | 0, i, x, h => by simp [itK] at h
  | n + 1, i, x, h => by
    cases hs : l[n]? with
    | none =>
      simp only [itK, hs] at h
      obtain ⟨k, s, h1, h2⟩ := it_idx n h
      exact ⟨k, s, by omega, h2⟩
    | some s =>
      by_cases hK : s.Kind = 3
      · rw [← itK_dot hs hK] at h
        obtain ⟨k, s, h1, h2⟩ := it_idx n h
        exact ⟨k, s, by omega, h2⟩
      · simp only [itK, hs, if_neg hK] at h
        rw [List.getElem?_append] at h
        split at h
        · obtain ⟨k, s, h1, h2⟩ := it_idx n h
          exact ⟨k, s, by omega, h2⟩
        · rename_i hi
          have hlt := (List.getElem?_eq_some_iff.1 h).1
          rw [itK_nt] at hi hlt h
          have e : i = ntN l n := by simp at hlt; omega
          subst e
          simp at h
          exact ⟨n, s, by omega, hs, hK, rfl, h.symm⟩
/-- Items follow their signs. -/
theorem nt_lt {l : List Sg} {k j : Nat} (h : ntN l j < ntN l k) : j < k := by
  rcases Nat.lt_or_ge j k with h1 | h1
  · exact h1
  · have := ntN_mono l j k h1; omega
/-! What a dot does to the note or rest before it. -/
def afterK (ch : List Int) (l : List Sg) (n k : Nat) : Int × Bool := match l[k + 1]? with
  | some z => if k + 1 < n ∧ z.Kind = 3 then (ch.getD (dotsK l (k + 1)).length 0, decide (ch.getD (dotsK l (k + 1)).length 0 = 0)) else (0, false)
  | none => (0, false)
theorem nt_strict {l : List Sg} {k j : Nat} {s : Sg} (hs : l[k]? = some s) (h : ¬ s.Kind = 3) (hkj : k < j) : ntN l k < ntN l j := by
  have := ntN_mono l j (k + 1) hkj
  rw [ntN_nr hs h] at this; omega
theorem mkK_at {ch : List Int} {l : List Sg} (hD : ∀ (i : Nat) z, l[i]? = some z → z.Kind = 3 → ∃ (j : Nat) (p : Sg), i = j + 1 ∧ l[j]? = some p ∧ ¬ p.Kind = 3) :
    ∀ (n k : Nat) (s : Sg), k < n → l[k]? = some s → ¬ s.Kind = 3 → (mkK ch l n).1[ntN l k]? = some (afterK ch l n k).1 ∧ (mkK ch l n).2.1[ntN l k]? = some (afterK ch l n k).2
  | 0, k, s, h, _, _ => by omega
  | n + 1, k, s, hk, hs, h3 => by
    have ih := mkK_at (ch := ch) hD n k s
    have hl1 := mkK_nt ch l n
    have hl2 := (mkK_len ch l n).1
    have hl3 := (mkK_len ch l n).2.2
    have same : ∀ (hne : ¬ (k + 1 = n ∧ ∃ z, l[n]? = some z ∧ z.Kind = 3)), k < n → afterK ch l (n + 1) k = afterK ch l n k := fun hne hkn => by
      unfold afterK
      cases hz : l[k + 1]? with
      | none => rfl
      | some z =>
        simp only
        by_cases h1 : k + 1 < n ∧ z.Kind = 3
        · rw [if_pos h1, if_pos ⟨by omega, h1.2⟩]
        · rw [if_neg h1, if_neg]
          rintro ⟨h2, h4⟩
          have e : k + 1 = n := Classical.byContradiction fun hn => h1 ⟨by omega, h4⟩
          exact hne ⟨e, z, by rw [← e]; exact hz, h4⟩
    cases hz : l[n]? with
    | none =>
      have hkn : k < n := by
        have h1 := (List.getElem?_eq_some_iff.1 hs).1
        have h2 := List.getElem?_eq_none_iff.1 hz
        omega
      have e : mkK ch l (n + 1) = mkK ch l n := by simp only [mkK, hz]
      rw [e, same (fun x => by obtain ⟨_, z, h1, _⟩ := x; rw [hz] at h1; cases h1) hkn]
      exact ih hkn hs h3
    | some z =>
      by_cases hK : z.Kind = 3
      · obtain ⟨j, p, hj, hp, hp3⟩ := hD n z hz hK
        subst hj
        have hkn : k < j + 1 := by
          rcases Nat.lt_or_ge k (j + 1) with h1 | h1
          · exact h1
          · have : k = j + 1 := by omega
            subst this; rw [hz] at hs; injection hs with hs; subst hs; exact absurd hK h3
        have hnj : ntN l (j + 1) = ntN l j + 1 := ntN_nr hp hp3
        obtain ⟨i1, i2⟩ := ih hkn hs h3
        rw [mkK_dot hz hK]
        have e1 : (((mkK ch l (j + 1)).1.length : Int) - 1).toNat = ntN l j := by omega
        have e2 : (((mkK ch l (j + 1)).2.1.length : Int) - 1).toNat = ntN l j := by omega
        rw [e1, e2]
        by_cases hkj : k = j
        · subst hkj
          have ea : afterK ch l (k + 1 + 1) k = (ch.getD (dotsK l (k + 1)).length 0, decide (ch.getD (dotsK l (k + 1)).length 0 = 0)) := by
            unfold afterK; rw [hz]; simp only; rw [if_pos ⟨by omega, hK⟩]
          rw [ea, hl3]
          constructor
          · rw [List.getElem?_set_self (by omega)]
          · rw [List.getElem?_set_self (by omega)]
        · have hne : ntN l j ≠ ntN l k := by have := nt_strict hs h3 (show k < j by omega); omega
          rw [same (fun x => by omega) hkn, List.getElem?_set_ne hne, List.getElem?_set_ne hne]
          exact ⟨i1, i2⟩
      · rw [mkK_note hz hK]
        by_cases hkn : k < n
        · obtain ⟨i1, i2⟩ := ih hkn hs h3
          rw [same (fun x => by obtain ⟨_, z', h1, h2⟩ := x; rw [hz] at h1; injection h1 with h1; subst h1; exact hK h2) hkn]
          have g1 := (List.getElem?_eq_some_iff.1 i1).1
          have g2 := (List.getElem?_eq_some_iff.1 i2).1
          exact ⟨by rw [List.getElem?_append_left g1]; exact i1, by rw [List.getElem?_append_left g2]; exact i2⟩
        · have e : k = n := by omega
          subst e
          have ea : afterK ch l (k + 1) k = (0, false) := by
            unfold afterK
            cases l[k + 1]? with
            | none => rfl
            | some z' => simp only; rw [if_neg (by omega)]
          rw [ea]
          constructor
          · show ((mkK ch l k).1 ++ [0])[ntN l k]? = some 0
            rw [← hl1]; simp
          · show ((mkK ch l k).2.1 ++ [false])[ntN l k]? = some false
            rw [← hl1, hl2]; simp
end Go.Rse
