/-
  Walks: the reference for mensurations.
-/
import Derived.Test.YtfiiobachmglpaaGreatDoorSMens2
import Derived.Test.YtfiiobachmglpaaGreatDoorSLogB
set_option linter.unusedSimpArgs false
set_option linter.unusedVariables false
namespace Go.Rse
open Go Go.Proofs
attribute [local irreducible] Pur StepA StepM Ex X ExG Fn Imp LeV LeB FnO It YStep
theorem p_big {m : Mn} {w : Int} (h : 4 < w) : m.p w = 2 := by
 unfold Mn.p; rw [if_neg (by omega), if_neg (by omega), if_neg (by omega), if_neg (by omega)]
theorem ckMV_ok {m : Mn} {v : Int} (h : ckMV m v = 0) : 1 <= v /\ v <= 8 := by
 unfold ckMV at h
 split at h
 ·split at h
  ·assumption
  ·omega
 ·omega
theorem ab_find {m : Mn} {v w : Int} (h1 : 1 <= w) (hv : w < v) (hp : m.p w = 3) (hJ : ∀ u, w < u -> u < v -> m.p u ≠ 3) : m.ab v = w := by
 have hw : w <= 4 := by
  rcases Int.lt_or_le 4 w with h | h
  ·rw [p_big h] at hp; omega
  ·exact h
 have hb : ∀ u, w < u -> decide (decide (m.p u = 3) = true /\ decide (u < v) = true) = false := fun u h => by
  by_cases h3 : m.p u = 3
  ·have : ¬ u < v := fun h4 => hJ u h h4 h3
   simp [this]
  ·simp [h3]
 have hbw : decide (decide (m.p w = 3) = true /\ decide (w < v) = true) = true := by simp [hp, hv]
 unfold Mn.ab perfL
 rw [List.find?_filter]
 have : w = 1 \/ w = 2 \/ w = 3 \/ w = 4 := by omega
 rcases this with rfl | rfl | rfl | rfl
 ·simp only [List.find?_cons, hb 4 (by omega), hb 3 (by omega), hb 2 (by omega), hbw]; rfl
 ·simp only [List.find?_cons, hb 4 (by omega), hb 3 (by omega), hbw]; rfl
 ·simp only [List.find?_cons, hb 4 (by omega), hbw]; rfl
 ·simp only [List.find?_cons, hbw]; rfl
end Go.Rse
