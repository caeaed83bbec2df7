/-
  Plain: the runs that tactuskit.RunOf makes of numbers.
-/
import Derived.Test.YtmbjfeaipblfcaaGreatDoorTRun0
namespace Go.Rse
open Go Go.Proofs
set_option linter.unusedVariables false
set_option linter.unusedSimpArgs false
/-- The next place. -/
def stp (p n : Int) : Int := if p + n % 5 - 2 < -4 ∨ 12 < p + n % 5 - 2 then 4 else p + n % 5 - 2
theorem stp_out {p n : Int} (h : p + n % 5 - 2 < -4 ∨ 12 < p + n % 5 - 2) : 4 = stp p n := by unfold stp; rw [if_pos h]
theorem stp_in {p n : Int} (h : ¬ (p + n % 5 - 2 < -4 ∨ 12 < p + n % 5 - 2)) : p + n % 5 - 2 = stp p n := by unfold stp; rw [if_neg h]
theorem stp_rng (p n : Int) : -4 ≤ stp p n ∧ stp p n ≤ 12 := by
  unfold stp
  split <;> omega
def roA (n : Int) : Int := ([0, 0, 0, 0, -1, 1, 2] : List Int).getD (n / 5 % 7).toNat 0
theorem roA_get (n : Int) : ([0, 0, 0, 0, -1, 1, 2] : List Int)[(n / 5 % 7).toNat]? = some (roA n) := by
  have : ∀ k : Fin 7, ([0, 0, 0, 0, -1, 1, 2] : List Int)[k.val]? = some (([0, 0, 0, 0, -1, 1, 2] : List Int).getD k.val 0) := by decide
  exact this ⟨(n / 5 % 7).toNat, by omega⟩
def rsS (v : Int) : Sg := ⟨2, v, 0, 0, false, 0, false, false, ⟨0, 0, 0, 0⟩, false, 0, 0, 0, 0⟩
def ntS (v p n : Int) : Sg := ⟨1, v, p, roA n, decide (n / 35 % 6 = 0), 0, false, false, ⟨0, 0, 0, 0⟩, false, 0, 0, 0, 0⟩
/-- What the maker holds: the signs, the place, whether a dot may follow. -/
structure Mk where
  l : List Sg
  p : Int
  d : Bool
def roS (m : Mn) (s : Mk) (x : Int) : Mk :=
  if x % 8 = 0 then ⟨s.l ++ [rsS (2 + x / 8 % 6)], s.p, abvK m (2 + x / 8 % 6)⟩
  else if x % 8 < 3 ∧ s.d = true then ⟨s.l ++ [sgDot], s.p, false⟩
  else ⟨s.l ++ [ntS (2 + x / 8 % 6) (stp s.p (x / 48)) (x / 48)], stp s.p (x / 48), true⟩
def roK (m : Mn) (nums : List Int) (most : Int) : Nat → Mk
  | 0 => ⟨[], 4, false⟩
  | k + 1 => match nums[k]? with
    | some x => if ((roK m nums most k).l.length : Int) < most then roS m (roK m nums most k) (x % 1048576) else roK m nums most k
    | none => roK m nums most k
def roL (m : Mn) (nums : List Int) (most : Int) : List Sg := (roK m nums most nums.length).l
theorem roK_s {m : Mn} {nums : List Int} {most : Int} {k : Nat} {x : Int} (hx : nums[k]? = some x) (h : ((roK m nums most k).l.length : Int) < most) : roK m nums most (k + 1) = roS m (roK m nums most k) (x % 1048576) := by
  conv => lhs; unfold roK
  rw [hx]; simp only [if_pos h]
theorem roK_full {m : Mn} {nums : List Int} {most : Int} {k : Nat} (h : most ≤ ((roK m nums most k).l.length : Int)) : ∀ d, roK m nums most (k + d) = roK m nums most k
  | 0 => rfl
  | d + 1 => by
    show roK m nums most ((k + d) + 1) = _
    have ih := roK_full h d
    conv => lhs; unfold roK
    rw [ih]
    split
    · rw [if_neg (by omega)]
    · rfl
theorem roL_at {m : Mn} {nums : List Int} {most : Int} {k : Nat} (hk : k ≤ nums.length) (h : ¬ ((k : Int) < nums.length ∧ ((roK m nums most k).l.length : Int) < most)) : (roK m nums most k).l = roL m nums most := by
  unfold roL
  by_cases hc : (k : Int) < nums.length
  · have : most ≤ ((roK m nums most k).l.length : Int) := by
      rcases Int.lt_or_le ((roK m nums most k).l.length : Int) most with h1 | h1
      · exact absurd ⟨hc, h1⟩ h
      · exact h1
    rw [show nums.length = k + (nums.length - k) by omega, roK_full this]
  · rw [show nums.length = k by omega]
theorem roS_len (m : Mn) (s : Mk) (x : Int) : (roS m s x).l.length = s.l.length + 1 := by
  unfold roS
  split
  · simp
  · split <;> simp
theorem roK_len (m : Mn) (nums : List Int) {most : Int} (h0 : 0 ≤ most) : ∀ k, ((roK m nums most k).l.length : Int) ≤ most
  | 0 => h0
  | k + 1 => by
    have := roK_len m nums h0 k
    unfold roK
    split
    · split
      · rw [roS_len]; omega
      · exact this
    · exact this
theorem roS_place {m : Mn} {s : Mk} (x : Int) (h : -4 ≤ s.p ∧ s.p ≤ 12) : -4 ≤ (roS m s x).p ∧ (roS m s x).p ≤ 12 := by
  unfold roS
  split
  · exact h
  · split
    · exact h
    · exact stp_rng _ _
theorem roK_place (m : Mn) (nums : List Int) (most : Int) : ∀ k, -4 ≤ (roK m nums most k).p ∧ (roK m nums most k).p ≤ 12
  | 0 => by unfold roK; exact ⟨by decide, by decide⟩
  | k + 1 => by
    have ih := roK_place m nums most k
    unfold roK
    split
    · split
      · exact roS_place _ ih
      · exact ih
    · exact ih
theorem roS_rest {m : Mn} {s : Mk} {x : Int} (h : x % 8 = 0) : roS m s x = ⟨s.l ++ [rsS (2 + x / 8 % 6)], s.p, abvK m (2 + x / 8 % 6)⟩ := by unfold roS; rw [if_pos h]
theorem roS_dot {m : Mn} {s : Mk} {x : Int} (h : ¬ x % 8 = 0) (h2 : x % 8 < 3 ∧ s.d = true) : roS m s x = ⟨s.l ++ [sgDot], s.p, false⟩ := by unfold roS; rw [if_neg h, if_pos h2]
theorem roS_note {m : Mn} {s : Mk} {x : Int} (h : ¬ x % 8 = 0) (h2 : ¬ (x % 8 < 3 ∧ s.d = true)) : roS m s x = ⟨s.l ++ [ntS (2 + x / 8 % 6) (stp s.p (x / 48)) (x / 48)], stp s.p (x / 48), true⟩ := by unfold roS; rw [if_neg h, if_neg h2]
/-- d says whether a dot may follow the run. -/
def dotAt (m : Mn) (l : List Sg) (d : Bool) : Prop := d = true → ∃ (j : Nat) (p : Sg), l.length = j + 1 ∧ l[j]? = some p ∧ (p.Kind = 1 ∨ (p.Kind = 2 ∧ 1 ≤ p.Value ∧ p.Value ≤ 8 ∧ abvK m p.Value = true))
theorem gr_snoc {m : Mn} {l : List Sg} {s : Sg} (h : Gr m l) (hs : ((s.Kind = 1 ∨ s.Kind = 2) ∧ 1 ≤ s.Value ∧ s.Value ≤ 8) ∨ (s.Kind = 3 ∧ dotAt m l true)) : Gr m (l ++ [s]) := fun i u hu => by
  rw [List.getElem?_append] at hu
  split at hu
  · rename_i hi
    rcases h i u hu with h1 | ⟨h1, j, p, h2, h3, h4⟩
    · exact .inl h1
    · exact .inr ⟨h1, j, p, h2, by rw [List.getElem?_append, if_pos (by omega)]; exact h3, h4⟩
  · rename_i hi
    have hlt := (List.getElem?_eq_some_iff.1 hu).1
    have e : i = l.length := by simp at hlt; omega
    subst e
    simp at hu; subst hu
    rcases hs with h1 | ⟨h1, h2⟩
    · exact .inl h1
    · obtain ⟨j, p, h3, h4, h5⟩ := h2 rfl
      exact .inr ⟨h1, j, p, h3, by rw [List.getElem?_append, if_pos (by omega)]; exact h4, h5⟩
theorem dotAt_snoc {m : Mn} {l : List Sg} {s : Sg} {d : Bool} (h : d = true → (s.Kind = 1 ∨ (s.Kind = 2 ∧ 1 ≤ s.Value ∧ s.Value ≤ 8 ∧ abvK m s.Value = true))) : dotAt m (l ++ [s]) d := fun hd => ⟨l.length, s, by simp, by simp, h hd⟩
theorem roS_gr {m : Mn} {s : Mk} {x : Int} (h : Gr m s.l) (hd : dotAt m s.l s.d) : Gr m (roS m s x).l ∧ dotAt m (roS m s x).l (roS m s x).d := by
  by_cases h1 : x % 8 = 0
  · rw [roS_rest h1]
    exact ⟨gr_snoc h (.inl ⟨.inr rfl, by show 1 ≤ 2 + x / 8 % 6; omega, by show 2 + x / 8 % 6 ≤ 8; omega⟩), dotAt_snoc fun hb => .inr ⟨rfl, by show 1 ≤ 2 + x / 8 % 6; omega, by show 2 + x / 8 % 6 ≤ 8; omega, hb⟩⟩
  · by_cases h2 : x % 8 < 3 ∧ s.d = true
    · rw [roS_dot h1 h2]
      exact ⟨gr_snoc h (.inr ⟨rfl, fun _ => hd h2.2⟩), fun hb => by simp at hb⟩
    · rw [roS_note h1 h2]
      exact ⟨gr_snoc h (.inl ⟨.inl rfl, by show 1 ≤ 2 + x / 8 % 6; omega, by show 2 + x / 8 % 6 ≤ 8; omega⟩), dotAt_snoc fun _ => .inl rfl⟩
theorem roK_gr (m : Mn) (nums : List Int) (most : Int) : ∀ k, Gr m (roK m nums most k).l ∧ dotAt m (roK m nums most k).l (roK m nums most k).d
  | 0 => by unfold roK; exact ⟨Gr.nil m, fun h => by simp at h⟩
  | k + 1 => by
    have ih := roK_gr m nums most k
    unfold roK
    split
    · split
      · exact roS_gr ih.1 ih.2
      · exact ih
    · exact ih
end Go.Rse
