/-
  Plain: durations of items: what is not colored is in no pair; none is 0.
-/
import Derived.Test.YtmbjfeaipblfcaaGreatDoorTItF0
namespace Go.Rse
open Go Go.Proofs
set_option linter.unusedVariables false
set_option linter.unusedSimpArgs false
theorem isPair_fact {m : Mn} {l : List Sg} {x : Int} (h : isPair m l x = true) : x + 1 < (l.length : Int) ∧ clr (l.getD x.toNat default) = true ∧ (l.getD x.toNat default).Value = 4 ∧ clr (l.getD (x + 1).toNat default) = true ∧ (l.getD (x + 1).toNat default).Value = 5 := by
  unfold isPair pairB at h
  simp only [Bool.and_eq_true, decide_eq_true_eq] at h
  obtain ⟨_, ⟨⟨⟨⟨⟨⟨h1, h2⟩, h3⟩, h4⟩, h5⟩, _⟩, _⟩, _⟩ := h
  exact ⟨h1, h2, h3, h4, h5⟩
theorem pairK_mem {m : Mn} {l : List Sg} : ∀ (k : Nat) (x : Int), x ∈ pairK m l k → isPair m l x = true ∧ 0 ≤ x ∧ x < (k : Int)
  | 0, x, h => by unfold pairK at h; simp at h
  | k + 1, x, h => by
    unfold pairK at h
    split at h
    · rename_i hp
      rcases List.mem_append.1 h with h | h
      · have := pairK_mem k x h; exact ⟨this.1, by omega, by omega⟩
      · simp at h; subst h; exact ⟨hp, by omega, by omega⟩
    · have := pairK_mem k x h; exact ⟨this.1, by omega, by omega⟩
theorem prL_mem {m : Mn} {l : List Sg} {x : Int} (h : x ∈ prL m l) : isPair m l x = true ∧ 0 ≤ x ∧ x < (l.length : Int) := by
  unfold prL at h
  split at h
  · unfold pairL at h; exact pairK_mem _ x h
  · simp at h
theorem dotsK_at {l : List Sg} {k : Nat} {s : Sg} (hs : l[k]? = some s) (h3 : s.Kind = 3) : ∀ n, k < n → (dotsK l n)[(dotsK l k).length]? = some (k : Int)
  | 0, h => by omega
  | n + 1, h => by
    rcases Nat.lt_or_ge k n with h1 | h1
    · have ih := dotsK_at hs h3 n h1
      have hl := (List.getElem?_eq_some_iff.1 ih).1
      rw [dotsK, List.getElem?_append, if_pos hl]; exact ih
    · have : k = n := by omega
      subst this
      rw [dotsK, List.getElem?_append, if_neg (by omega)]
      simp [hs, h3]
theorem markK_key (p mi : List Int) (q : Int) : ∀ k, mget q (markK p mi k) = none ∨ ∃ j, j < k ∧ (q = p.getD j 0 ∨ q = p.getD j 0 + 1)
  | 0 => .inl (by simp [markK, mget_nil])
  | k + 1 => by
    have ih := markK_key p mi q k
    unfold markK
    split
    · rw [mget_mput, mget_mput]
      by_cases h1 : p.getD k 0 + 1 = q
      · exact .inr ⟨k, by omega, .inr h1.symm⟩
      · by_cases h2 : p.getD k 0 = q
        · exact .inr ⟨k, by omega, .inl h2.symm⟩
        · rw [if_neg h1, if_neg h2]
          rcases ih with h | ⟨j, h3, h4⟩
          · exact .inl h
          · exact .inr ⟨j, by omega, h4⟩
    · rcases ih with h | ⟨j, h3, h4⟩
      · exact .inl h
      · exact .inr ⟨j, by omega, h4⟩
theorem mk_len {m : Mn} {l : List Sg} {ch : List Int} (h : mkE m l ch = 0) : (mnsD m l).length = ch.length ∧ chOk ch (mnsD m l) := by
  have hck := ck_mkE h
  unfold mkE at h
  rw [if_pos hck] at h
  split at h
  · assumption
  · cases h
end Go.Rse
