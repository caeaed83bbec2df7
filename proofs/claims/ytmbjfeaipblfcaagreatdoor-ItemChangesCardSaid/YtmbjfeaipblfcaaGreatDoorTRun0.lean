/-
  Plain: the runs that tactuskit.Run makes of numbers.
-/
import Derived.Test.YtmbjfeaipblfcaaGreatDoorTKit1
import Derived.Test.YtmbjfeaipblfcaaGreatDoorTDurA
namespace Go.Rse
open Go Go.Proofs
set_option linter.unusedVariables false
set_option linter.unusedSimpArgs false
/-- Whether a value greater than v is perfect. -/
def abvK (m : Mn) (v : Int) : Bool := (decide (1 < v) && decide (m.p 1 = 3)) || (decide (2 < v) && decide (m.p 2 = 3)) || (decide (3 < v) && decide (m.p 3 = 3)) || (decide (4 < v) && decide (m.p 4 = 3))
theorem abvK_yes {m : Mn} {v k : Int} (h1 : 1 ≤ k) (h2 : k < v) (h3 : m.p k = 3) : abvK m v = true := by
  have h4 : k ≤ 4 := by
    rcases Int.lt_or_le 4 k with h | h
    · rw [p_big h] at h3; omega
    · exact h
  have : k = 1 ∨ k = 2 ∨ k = 3 ∨ k = 4 := by omega
  unfold abvK
  rcases this with rfl | rfl | rfl | rfl <;> simp [h2, h3]
theorem abvK_no {m : Mn} {v : Int} (h : ∀ k, 1 ≤ k → k < v → ¬ m.p k = 3) : abvK m v = false := by
  unfold abvK
  have e : ∀ k : Int, 1 ≤ k → (decide (k < v) && decide (m.p k = 3)) = false := fun k hk => by
    by_cases h2 : k < v
    · rw [decide_eq_false (h k hk h2)]; simp
    · rw [decide_eq_false h2]; rfl
  rw [e 1 (by omega), e 2 (by omega), e 3 (by omega), e 4 (by omega)]; rfl
theorem abvK_aV {m : Mn} {v : Int} (hm : ckM m = 0) (h1 : 1 ≤ v) (h8 : v ≤ 8) (h : abvK m v = true) : ¬ m.aV v = 0 := by
  intro ha
  have hv : m.ab v = 0 := by
    have h0 : ckMV m v = 0 := ckMV_0 hm h1 h8
    unfold Mn.aV at ha; rw [if_pos h0] at ha; exact ha
  have key : ∀ k : Int, 1 ≤ k → k < v → ¬ m.p k = 3 := by
    intro k hk1 hk2 hk3
    have : ∃ w, 1 ≤ w ∧ w < v ∧ m.p w = 3 ∧ ∀ u, w < u → u < v → m.p u ≠ 3 := by
      have hind : ∀ n : Nat, ∀ w : Int, 1 ≤ w → w < v → m.p w = 3 → (v - w).toNat = n → ∃ w, 1 ≤ w ∧ w < v ∧ m.p w = 3 ∧ ∀ u, w < u → u < v → m.p u ≠ 3 := by
        intro n
        induction n using Nat.strongRecOn with
        | ind n ih =>
          intro w hw1 hw2 hw3 hn
          by_cases hx : ∃ u, w < u ∧ u < v ∧ m.p u = 3
          · obtain ⟨u, h1, h2, h3⟩ := hx
            exact ih (v - u).toNat (by omega) u (by omega) h2 h3 rfl
          · exact ⟨w, hw1, hw2, hw3, fun u h1 h2 h3 => hx ⟨u, h1, h2, h3⟩⟩
      exact hind _ k hk1 hk2 hk3 rfl
    obtain ⟨w, w1, w2, w3, w4⟩ := this
    rw [ab_find w1 w2 w3 w4] at hv; omega
  rw [abvK_no key] at h; exact absurd h (by decide)
/-- Notes and rests of middle values; dots behind notes, or behind rests that have a perfect value above. -/
def Gr (m : Mn) (l : List Sg) : Prop := ∀ (i : Nat) s, l[i]? = some s → ((s.Kind = 1 ∨ s.Kind = 2) ∧ 1 ≤ s.Value ∧ s.Value ≤ 8) ∨ (s.Kind = 3 ∧ ∃ (j : Nat) (p : Sg), i = j + 1 ∧ l[j]? = some p ∧ (p.Kind = 1 ∨ (p.Kind = 2 ∧ 1 ≤ p.Value ∧ p.Value ≤ 8 ∧ abvK m p.Value = true)))
theorem Gr.nil (m : Mn) : Gr m [] := fun i s h => by simp at h
theorem Gr.append {m : Mn} {a b : List Sg} (ha : Gr m a) (hb : Gr m b) : Gr m (a ++ b) := fun i s h => by
  rw [List.getElem?_append] at h
  split at h
  · rename_i hi
    rcases ha i s h with h1 | ⟨h1, j, p, h2, h3, h4⟩
    · exact .inl h1
    · exact .inr ⟨h1, j, p, h2, by rw [List.getElem?_append, if_pos (by omega)]; exact h3, h4⟩
  · rename_i hi
    rcases hb _ s h with h1 | ⟨h1, j, p, h2, h3, h4⟩
    · exact .inl h1
    · refine .inr ⟨h1, j + a.length, p, by omega, ?_, h4⟩
      rw [List.getElem?_append, if_neg (by omega), show j + a.length - a.length = j by omega]; exact h3
theorem sgR_gr {m : Mn} {l : List Sg} (hm : ckM m = 0) (h : Gr m l) {i : Nat} {s : Sg} (hs : l[i]? = some s) : sgR m l i s = 0 := by
  unfold sgR
  rcases h i s hs with ⟨h1, h2, h3⟩ | ⟨h1, j, p, rfl, h3, h4⟩
  · rw [if_pos h1, if_pos ⟨h2, h3⟩]
  · rw [if_neg (by omega), if_pos h1]
    simp only [h3]
    rw [if_neg]
    rcases h4 with h4 | ⟨h4, h5, h6, h7⟩
    · omega
    · have := abvK_aV hm (by omega) (by omega) h7
      omega
theorem ckFromR_all {m : Mn} {l : List Sg} (h : ∀ (i : Nat) s, l[i]? = some s → sgR m l i s = 0) : ∀ (n k : Nat), l.length - k = n → ckFromR m l k (l.drop k) = 0
  | 0, k, hn => by rw [List.drop_of_length_le (by omega)]; rfl
  | n + 1, k, hn => by
    have hs : l[k]? = some l[k] := List.getElem?_eq_getElem (by omega)
    rw [ckFromR_ok hs (h k _ hs)]
    exact ckFromR_all h n (k + 1) (by omega)
theorem gr_ck {m : Mn} {l : List Sg} (hm : ckM m = 0) (h : Gr m l) : ckD m l = 0 := by
  rw [ckD_R]; unfold ckR; rw [if_pos hm]
  have := ckFromR_all (m := m) (fun i s hs => sgR_gr hm h hs) l.length 0 rfl
  simpa using this
end Go.Rse
