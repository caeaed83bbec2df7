/-
  Plain: the runs that tactuskit.Run makes of numbers.
-/
import Derived.Test.YtmbjfeaipblfcaaGreatDoorKit1
import Derived.Test.YtmbjfeaipblfcaaGreatDoorDurA
namespace Go.Rse
open Go Go.Proofs
set_option linter.unusedVariables false
set_option linter.unusedSimpArgs false
/-- Whether a value greater than v is perfect. -/
def abvK (m : Mn) (v : Int) : Bool := (decide (1 < v) && decide (m.p 1 = 3)) || (decide (2 < v) && decide (m.p 2 = 3)) || (decide (3 < v) && decide (m.p 3 = 3)) || (decide (4 < v) && decide (m.p 4 = 3))
theorem abvK_yes {m : Mn} {v k : Int} (h1 : 1 ≤ k) (h2 : k < v) (h3 : m.p k = 3) : abvK m v = true := by
  have h4 : k ≤ 4 := by
    rcases Int.lt_or_le 4 k with h | h
    · rw [p_big h] at h3; omega
    · exact h
  have : k = 1 ∨ k = 2 ∨ k = 3 ∨ k = 4 := by omega
  unfold abvK
  rcases this with rfl | rfl | rfl | rfl <;> simp [h2, h3]
theorem abvK_no {m : Mn} {v : Int} (h : ∀ k, 1 ≤ k → k < v → ¬ m.p k = 3) : abvK m v = false := by
  unfold abvK
  have e : ∀ k : Int, 1 ≤ k → (decide (k < v) && decide (m.p k = 3)) = false := fun k hk => by
    by_cases h2 : k < v
    · rw [decide_eq_false (h k hk h2)]; simp
    · rw [decide_eq_false h2]; rfl
  rw [e 1 (by omega), e 2 (by omega), e 3 (by omega), e 4 (by omega)]; rfl
theorem abvK_aV {m : Mn} {v : Int} (hm : ckM m = 0) (h1 : 1 ≤ v) (h8 : v ≤ 8) (h : abvK m v = true) : ¬ m.aV v = 0 := by
  intro ha
  have hv : m.ab v = 0 := by
    have h0 : ckMV m v = 0 := ckMV_0 hm h1 h8
    unfold Mn.aV at ha; rw [if_pos h0] at ha; exact ha
  have key : ∀ k : Int, 1 ≤ k → k < v → ¬ m.p k = 3 := by
    intro k hk1 hk2 hk3
    have : ∃ w, 1 ≤ w ∧ w < v ∧ m.p w = 3 ∧ ∀ u, w < u → u < v → m.p u ≠ 3 := by
      have hind : ∀ n : Nat, ∀ w : Int, 1 ≤ w → w < v → m.p w = 3 → (v - w).toNat = n → ∃ w, 1 ≤ w ∧ w < v ∧ m.p w = 3 ∧ ∀ u, w < u → u < v → m.p u ≠ 3 := by
        intro n
        induction n using Nat.strongRecOn with
        | ind n ih =>
          intro w hw1 hw2 hw3 hn
          by_cases hx : ∃ u, w < u ∧ u < v ∧ m.p u = 3
          · obtain ⟨u, h1, h2, h3⟩ := hx
            exact ih (v - u).toNat (by omega) u (by omega) h2 h3 rfl
          · exact ⟨w, hw1, hw2, hw3, fun u h1 h2 h3 => hx ⟨u, h1, h2, h3⟩⟩
      exact hind _ k hk1 hk2 hk3 rfl
    obtain ⟨w, w1, w2, w3, w4⟩ := this
    rw [ab_find w1 w2 w3 w4] at hv; omega
  rw [abvK_no key] at h; exact absurd h (by decide)
def rnV (n : Int) : Int := ([3, 4, 4, 5, 5, 3, 2, 6] : List Int).getD (n % 8).toNat 0
theorem rnV_tab : ∀ k : Fin 8, 2 ≤ ([3, 4, 4, 5, 5, 3, 2, 6] : List Int).getD k.val 0 ∧ ([3, 4, 4, 5, 5, 3, 2, 6] : List Int).getD k.val 0 ≤ 6 := by decide
theorem rnV_rng (n : Int) : 2 ≤ rnV n ∧ rnV n ≤ 6 := rnV_tab ⟨(n % 8).toNat, by omega⟩
/-- The sign number i, made of n. -/
def rnS (i : Nat) (n : Int) : Sg := if n / 8 % 9 = 0 then ⟨2, rnV n, 0, 0, false, 0, false, false, ⟨0, 0, 0, 0⟩, false, 0, 0, 0, 0⟩
  else ⟨1, rnV n, (i : Int) % 9, 0, decide (n / 8 % 9 = 1) || decide (n / 8 % 9 = 2), 0, false, false, ⟨0, 0, 0, 0⟩, false, 0, 0, 0, 0⟩
def rnK (m : Mn) (nums : List Int) (most : Int) : Nat → List Sg
  | 0 => []
  | k + 1 => match nums[k]? with
    | some x => if ((rnK m nums most k).length : Int) < most then
        (if x % 504 / 72 = 0 ∧ ((rnK m nums most k).length : Int) + 1 < most ∧ ((rnS k (x % 504)).Kind = 1 ∨ abvK m (rnS k (x % 504)).Value = true)
          then rnK m nums most k ++ [rnS k (x % 504)] ++ [sgDot] else rnK m nums most k ++ [rnS k (x % 504)]) else rnK m nums most k
    | none => rnK m nums most k
def rnL (m : Mn) (nums : List Int) (most : Int) : List Sg := rnK m nums most nums.length
theorem rnK_dot {m : Mn} {nums : List Int} {most : Int} {k : Nat} {x : Int} (hx : nums[k]? = some x) (h : ((rnK m nums most k).length : Int) < most) (hd : x % 504 / 72 = 0 ∧ ((rnK m nums most k).length : Int) + 1 < most) (hk : (rnS k (x % 504)).Kind = 1 ∨ abvK m (rnS k (x % 504)).Value = true) : rnK m nums most k ++ [rnS k (x % 504)] ++ [sgDot] = rnK m nums most (k + 1) := by
  conv => rhs; unfold rnK
  rw [hx]; simp only [if_pos h, if_pos (show _ ∧ _ ∧ _ from ⟨hd.1, hd.2, hk⟩)]
theorem rnK_sgn {m : Mn} {nums : List Int} {most : Int} {k : Nat} {x : Int} (hx : nums[k]? = some x) (h : ((rnK m nums most k).length : Int) < most) (hd : ¬ (x % 504 / 72 = 0 ∧ ((rnK m nums most k).length : Int) + 1 < most ∧ ((rnS k (x % 504)).Kind = 1 ∨ abvK m (rnS k (x % 504)).Value = true))) : rnK m nums most k ++ [rnS k (x % 504)] = rnK m nums most (k + 1) := by
  conv => rhs; unfold rnK
  rw [hx]; simp only [if_pos h, if_neg hd]
theorem rnK_full {m : Mn} {nums : List Int} {most : Int} {k : Nat} (h : most ≤ ((rnK m nums most k).length : Int)) : ∀ d, rnK m nums most (k + d) = rnK m nums most k
  | 0 => rfl
  | d + 1 => by
    show rnK m nums most ((k + d) + 1) = _
    have ih := rnK_full h d
    conv => lhs; unfold rnK
    rw [ih]
    split
    · rw [if_neg (by omega)]
    · rfl
theorem rnK_len (m : Mn) (nums : List Int) {most : Int} (h0 : 0 ≤ most) : ∀ k, ((rnK m nums most k).length : Int) ≤ most
  | 0 => h0
  | k + 1 => by
    have := rnK_len m nums h0 k
    unfold rnK
    split
    · split
      · split <;> simp <;> omega
      · exact this
    · exact this
/-- Notes and rests of middle values; dots behind notes, or behind rests that have a perfect value above. -/
def Gr (m : Mn) (l : List Sg) : Prop := ∀ (i : Nat) s, l[i]? = some s → ((s.Kind = 1 ∨ s.Kind = 2) ∧ 1 ≤ s.Value ∧ s.Value ≤ 8) ∨ (s.Kind = 3 ∧ ∃ (j : Nat) (p : Sg), i = j + 1 ∧ l[j]? = some p ∧ (p.Kind = 1 ∨ (p.Kind = 2 ∧ 1 ≤ p.Value ∧ p.Value ≤ 8 ∧ abvK m p.Value = true)))
theorem Gr.nil (m : Mn) : Gr m [] := fun i s h => by simp at h
theorem Gr.append {m : Mn} {a b : List Sg} (ha : Gr m a) (hb : Gr m b) : Gr m (a ++ b) := fun i s h => by
  rw [List.getElem?_append] at h
  split at h
  · rename_i hi
    rcases ha i s h with h1 | ⟨h1, j, p, h2, h3, h4⟩
    · exact .inl h1
    · exact .inr ⟨h1, j, p, h2, by rw [List.getElem?_append, if_pos (by omega)]; exact h3, h4⟩
  · rename_i hi
    rcases hb _ s h with h1 | ⟨h1, j, p, h2, h3, h4⟩
    · exact .inl h1
    · refine .inr ⟨h1, j + a.length, p, by omega, ?_, h4⟩
      rw [List.getElem?_append, if_neg (by omega), show j + a.length - a.length = j by omega]; exact h3
theorem rnS_kind (i : Nat) (n : Int) : ((rnS i n).Kind = 1 ∨ (rnS i n).Kind = 2) ∧ 2 ≤ (rnS i n).Value ∧ (rnS i n).Value ≤ 6 := by
  have := rnV_rng n
  unfold rnS
  split
  · exact ⟨.inr rfl, this⟩
  · exact ⟨.inl rfl, this⟩
theorem gr_one {m : Mn} (i : Nat) (n : Int) : Gr m [rnS i n] := fun j s h => by
  cases j with
  | zero =>
    have := rnS_kind i n
    simp at h; subst h; exact .inl ⟨this.1, by omega, by omega⟩
  | succ j => simp at h
theorem gr_two {m : Mn} {i : Nat} {n : Int} (h : (rnS i n).Kind = 1 ∨ abvK m (rnS i n).Value = true) : Gr m [rnS i n, sgDot] := fun j s hs => by
  have hk := rnS_kind i n
  cases j with
  | zero => simp at hs; subst hs; exact .inl ⟨hk.1, by omega, by omega⟩
  | succ j =>
    cases j with
    | zero =>
      simp at hs; subst hs
      refine .inr ⟨rfl, 0, rnS i n, rfl, rfl, ?_⟩
      rcases hk.1 with h1 | h1
      · exact .inl h1
      · rcases h with h | h
        · exact .inl h
        · exact .inr ⟨h1, by omega, by omega, h⟩
    | succ j => simp at hs
theorem rnK_gr (m : Mn) (nums : List Int) (most : Int) : ∀ k, Gr m (rnK m nums most k)
  | 0 => Gr.nil m
  | k + 1 => by
    have ih := rnK_gr m nums most k
    unfold rnK
    split
    · split
      · split
        · rename_i h
          rw [List.append_assoc]
          exact ih.append (gr_two h.2.2)
        · exact ih.append (gr_one _ _)
      · exact ih
    · exact ih
theorem sgR_gr {m : Mn} {l : List Sg} (hm : ckM m = 0) (h : Gr m l) {i : Nat} {s : Sg} (hs : l[i]? = some s) : sgR m l i s = 0 := by
  unfold sgR
  rcases h i s hs with ⟨h1, h2, h3⟩ | ⟨h1, j, p, rfl, h3, h4⟩
  · rw [if_pos h1, if_pos ⟨h2, h3⟩]
  · rw [if_neg (by omega), if_pos h1]
    simp only [h3]
    rw [if_neg]
    rcases h4 with h4 | ⟨h4, h5, h6, h7⟩
    · omega
    · have := abvK_aV hm (by omega) (by omega) h7
      omega
theorem ckFromR_all {m : Mn} {l : List Sg} (h : ∀ (i : Nat) s, l[i]? = some s → sgR m l i s = 0) : ∀ (n k : Nat), l.length - k = n → ckFromR m l k (l.drop k) = 0
  | 0, k, hn => by rw [List.drop_of_length_le (by omega)]; rfl
  | n + 1, k, hn => by
    have hs : l[k]? = some l[k] := List.getElem?_eq_getElem (by omega)
    rw [ckFromR_ok hs (h k _ hs)]
    exact ckFromR_all h n (k + 1) (by omega)
theorem gr_ck {m : Mn} {l : List Sg} (hm : ckM m = 0) (h : Gr m l) : ckD m l = 0 := by
  rw [ckD_R]; unfold ckR; rw [if_pos hm]
  have := ckFromR_all (m := m) (fun i s hs => sgR_gr hm h hs) l.length 0 rfl
  simpa using this
theorem rnL_gr (m : Mn) (nums : List Int) (most : Int) : Gr m (rnL m nums most) := rnK_gr m nums most _
theorem rnL_len (m : Mn) (nums : List Int) {most : Int} (h0 : 0 ≤ most) : ((rnL m nums most).length : Int) ≤ most := rnK_len m nums h0 _
theorem rnL_at {m : Mn} {nums : List Int} {most : Int} {k : Nat} (hk : k ≤ nums.length) (h : (nums.length : Int) ≤ k ∨ most ≤ ((rnK m nums most k).length : Int)) : rnK m nums most k = rnL m nums most := by
  unfold rnL
  rcases h with h | h
  · have : k = nums.length := by omega
    rw [this]
  · have := rnK_full h (nums.length - k)
    rw [show k + (nums.length - k) = nums.length by omega] at this
    exact this.symm
theorem rnV_get (n : Int) : ([3, 4, 4, 5, 5, 3, 2, 6] : List Int)[(n % 8).toNat]? = some (rnV n) := by
  unfold rnV
  rw [List.getD_eq_getElem?_getD, List.getElem?_eq_getElem (by simp; omega)]; rfl
theorem rnK_dotI {m : Mn} {nums : List Int} {most : Int} {k : Nat} {x : Int} {s : Sg} (hS : rnS k (x % 504) = s) (hx : nums[k]? = some x) (h : ((rnK m nums most k).length : Int) < most) (hd : (x % 504 / 72 = 0 ∧ ((rnK m nums most k ++ [s]).length : Int) < most) ∧ (s.Kind = 1 ∨ abvK m s.Value = true)) : rnK m nums most k ++ [s] ++ [sgDot] = rnK m nums most (k + 1) := by
  subst hS
  exact rnK_dot hx h ⟨hd.1.1, by have := hd.1.2; simp at this; omega⟩ hd.2
theorem rnK_sgnI {m : Mn} {nums : List Int} {most : Int} {k : Nat} {x : Int} {s : Sg} (hS : rnS k (x % 504) = s) (hx : nums[k]? = some x) (h : ((rnK m nums most k).length : Int) < most) (hd : (¬ x % 504 / 72 = 0 ∨ most ≤ ((rnK m nums most k ++ [s]).length : Int)) ∨ (¬ s.Kind = 1 ∧ abvK m s.Value = false)) : rnK m nums most k ++ [s] = rnK m nums most (k + 1) := by
  subst hS
  refine rnK_sgn hx h fun e => ?_
  rcases hd with (h1 | h1) | h1
  · exact h1 e.1
  · simp at h1; omega
  · rcases e.2.2 with h2 | h2
    · exact h1.1 h2
    · rw [h1.2] at h2; exact absurd h2 (by decide)
end Go.Rse
