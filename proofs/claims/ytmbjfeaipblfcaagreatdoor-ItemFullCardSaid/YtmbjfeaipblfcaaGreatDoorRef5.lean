/-
  Walks: the reference for mensurations.
-/
import Derived.Test.YtmbjfeaipblfcaaGreatDoorMens2
import Derived.Test.YtmbjfeaipblfcaaGreatDoorLogB
namespace Go.Rse
open Go Go.Proofs
set_option linter.unusedVariables false
set_option linter.unusedSimpArgs false
attribute [local irreducible] Pur StepA StepM Ex X ExG Fn Imp LeV LeB FnO It YStep
theorem Mn.ok_L (m : Mn) : m.Ok ↔ ∀ v ∈ mnL m, two3 v := by simp [Mn.Ok, mnL]
theorem p_big {m : Mn} {w : Int} (h : 4 < w) : m.p w = 2 := by
  unfold Mn.p; rw [if_neg (by omega), if_neg (by omega), if_neg (by omega), if_neg (by omega)]
theorem ckMV_ok {m : Mn} {v : Int} (h : ckMV m v = 0) : 1 ≤ v ∧ v ≤ 8 := by
  unfold ckMV at h
  split at h
  · split at h
    · assumption
    · omega
  · omega
theorem ab_find {m : Mn} {v w : Int} (h1 : 1 ≤ w) (hv : w < v) (hp : m.p w = 3) (hJ : ∀ u, w < u → u < v → m.p u ≠ 3) : m.ab v = w := by
  have hw : w ≤ 4 := by
    rcases Int.lt_or_le 4 w with h | h
    · rw [p_big h] at hp; omega
    · exact h
  have hb : ∀ u, w < u → decide (decide (m.p u = 3) = true ∧ decide (u < v) = true) = false := fun u h => by
    by_cases h3 : m.p u = 3
    · have : ¬ u < v := fun h4 => hJ u h h4 h3
      simp [this]
    · simp [h3]
  have hbw : decide (decide (m.p w = 3) = true ∧ decide (w < v) = true) = true := by simp [hp, hv]
  unfold Mn.ab perfL
  rw [List.find?_filter]
  have : w = 1 ∨ w = 2 ∨ w = 3 ∨ w = 4 := by omega
  rcases this with rfl | rfl | rfl | rfl
  · simp only [List.find?_cons, hb 4 (by omega), hb 3 (by omega), hb 2 (by omega), hbw]; rfl
  · simp only [List.find?_cons, hb 4 (by omega), hb 3 (by omega), hbw]; rfl
  · simp only [List.find?_cons, hb 4 (by omega), hbw]; rfl
  · simp only [List.find?_cons, hbw]; rfl
theorem ab_zero {m : Mn} {v : Int} (hJ : ∀ u, 1 ≤ u → u < v → m.p u ≠ 3) : m.ab v = 0 := ab_none fun i _ k hk h => by
  have hm : k ∈ perfL m := List.mem_of_getElem? hk
  have h2 := List.mem_filter.1 hm
  have h3 : m.p k = 3 := by simpa using h2.2
  have h4 : 1 ≤ k := by have := h2.1; simp at this; omega
  exact hJ k h4 h h3
theorem C_tactusref05_Check (m : Mn) : Fn Tryz.prog 137 [mnA m] (iv (ckM m)) := by
  refine Fn.go Tryz.func137 Tryz.ntmps137 (fun g w d => ?_)
  refine X.seq ?_
  refine X.region ?_
  refine Ex.ba ?_
  refine Ex.pu ?_
  refine Ex.nil ?_
  refine X.seq ?_
  refine X.region ?_
  iterate 8 refine Ex.pu ?_
  refine Ex.bs intE [_, _, _, _] ?_
  refine Ex.pu ?_
  refine Ex.nil ?_
  refine X.seq ?_
  refine X.seq ?_
  refine X.imp (Imp.freeze (k := 13) rfl) ?_
  refine X.region ?_
  refine Ex.pu ?_
  refine Ex.nil ?_
  refine X.block ?_
  refine X.lp (ι := Nat) (fun (k : Nat) => [(3, intsA (mnL m)), (4, iv (k : Int))]) (fun (k : Nat) => []) (fun (k : Nat) => k ≤ 4 ∧ ∀ i v, i < k → (mnL m)[i]? = some v → two3 v) (fun (k : Nat) => 4 - k) 0 (fun k hk => ?_) (hJ := by
    exact ⟨by omega, fun i v h => absurd h (Nat.not_lt_zero i)⟩)
  obtain ⟨hk1, hk2⟩ := hk
  have hl4 : (mnL m).length = 4 := rfl
  refine X.seq ?_
  refine X.seq ?_
  refine X.region ?_
  iterate 4 refine Ex.pu ?_
  refine Ex.nil ?_
  refine X.cd rfl (fun hc1 => ?_) (fun hc1 => ?_)
  · obtain ⟨v, hv⟩ : ∃ v, (mnL m)[k]? = some v := ⟨_, List.getElem?_eq_getElem (by omega)⟩
    have hv2 : (mnL m)[(k : Int).toNat]? = some v := by simpa using hv
    refine X.skip ?_
    refine X.seq ?_
    refine X.block ?_
    refine X.seq ?_
    refine X.region ?_
    iterate 5 refine Ex.pu ?_
    refine ExF.at 5 ?_
    refine ExF.pu ?_
    iterate 5 refine ExF.gi ?_
    refine ExF.done ?_
    refine Ex.pu ?_
    refine Ex.nil ?_
    refine X.cd rfl (fun hc2 => ?_) (fun hc2 => ?_)
    · refine X.seq ?_
      refine X.region ?_
      refine Ex.pu ?_
      refine Ex.nil ?_
      refine X.ret ?_
      refine RetQ.ret (.one (.tmp rfl (LeV.eq ?_)))
      all_goals (congr 1; unfold ckM; rw [if_neg (fun h => by have := (m.ok_L.1 h) v (List.mem_of_getElem? hv); unfold two3 at this; omega)])
    refine X.skip ?_
    refine X.region ?_
    iterate 3 refine Ex.pu ?_
    refine Ex.nil ?_
    refine X.bk (k + 1) (hJ := by
      refine ⟨by omega, fun i u hi hu => ?_⟩
      rcases Nat.lt_succ_iff_lt_or_eq.1 hi with h | h
      · exact hk2 i u h hu
      · subst h; rw [hv] at hu; injection hu with hu; subst hu; unfold two3; omega)
  · refine X.exit ?_
    refine X.seq ?_
    refine X.region ?_
    refine Ex.pu ?_
    refine Ex.nil ?_
    refine X.ret ?_
    refine RetQ.ret (.one (.tmp rfl (LeV.eq ?_)))
    all_goals (congr 1; unfold ckM; rw [if_pos (m.ok_L.2 fun v hv => by obtain ⟨i, hi⟩ := List.mem_iff_getElem?.1 hv; exact hk2 i v (by have := (List.getElem?_eq_some_iff.1 hi).1; omega) hi)])
theorem C_tactusref05_P (m : Mn) (v : Int) : Fn Tryz.prog 162 [mnA m, iv v] (iv (m.p v)) := by
  refine Fn.go Tryz.func162 Tryz.ntmps162 (fun g w d => ?_)
  refine X.seq ?_
  refine X.region ?_
  refine Ex.ba ?_
  refine Ex.pu ?_
  refine Ex.nil ?_
  refine X.seq ?_
  refine X.seq ?_
  refine X.region ?_
  refine Ex.pu ?_
  refine Ex.nil ?_
  refine X.block ?_
  refine X.seq ?_
  refine X.region ?_
  iterate 2 refine Ex.pu ?_
  refine Ex.nil ?_
  refine X.cd rfl (fun hc1 => ?_) (fun hc1 => ?_)
  · refine X.seq ?_
    refine X.region ?_
    iterate 3 refine Ex.pu ?_
    refine Ex.nil ?_
    refine X.ret ?_
    refine RetQ.ret (.one (.tmp rfl (LeV.eq ?_)))
    all_goals (congr 1; unfold Mn.p; simp [*])
  refine X.seq ?_
  refine X.region ?_
  iterate 2 refine Ex.pu ?_
  refine Ex.nil ?_
  refine X.cd rfl (fun hc2 => ?_) (fun hc2 => ?_)
  · refine X.seq ?_
    refine X.region ?_
    iterate 3 refine Ex.pu ?_
    refine Ex.nil ?_
    refine X.ret ?_
    refine RetQ.ret (.one (.tmp rfl (LeV.eq ?_)))
    all_goals (congr 1; unfold Mn.p; simp [*])
  refine X.seq ?_
  refine X.region ?_
  iterate 2 refine Ex.pu ?_
  refine Ex.nil ?_
  refine X.cd rfl (fun hc3 => ?_) (fun hc3 => ?_)
  · refine X.seq ?_
    refine X.region ?_
    iterate 3 refine Ex.pu ?_
    refine Ex.nil ?_
    refine X.ret ?_
    refine RetQ.ret (.one (.tmp rfl (LeV.eq ?_)))
    all_goals (congr 1; unfold Mn.p; simp [*])
  refine X.seq ?_
  refine X.region ?_
  iterate 2 refine Ex.pu ?_
  refine Ex.nil ?_
  refine X.cd rfl (fun hc4 => ?_) (fun hc4 => ?_)
  · refine X.seq ?_
    refine X.region ?_
    iterate 3 refine Ex.pu ?_
    refine Ex.nil ?_
    refine X.ret ?_
    refine RetQ.ret (.one (.tmp rfl (LeV.eq ?_)))
    all_goals (congr 1; unfold Mn.p; simp [*])
  refine X.skip ?_
  refine X.seq ?_
  refine X.region ?_
  refine Ex.pu ?_
  refine Ex.nil ?_
  refine X.ret ?_
  refine RetQ.ret (.one (.tmp rfl (LeV.eq ?_)))
  all_goals (congr 1; unfold Mn.p; simp [*])
theorem C_tactusref05_value (m : Mn) (v : Int) : Fn Tryz.prog 187 [mnA m, iv v] (iv (ckMV m v)) := by
  refine Fn.go Tryz.func187 Tryz.ntmps187 (fun g w d => ?_)
  refine X.seq ?_
  refine X.region ?_
  refine Ex.ba ?_
  refine Ex.pu ?_
  refine Ex.nil ?_
  refine X.seq ?_
  refine X.region ?_
  refine Ex.pu ?_
  refine Ex.ca (C_tactusref05_Check m) ?_
  refine Ex.pu ?_
  refine Ex.nil ?_
  refine X.seq ?_
  refine X.seq ?_
  refine X.region ?_
  iterate 2 refine Ex.pu ?_
  refine Ex.nil ?_
  refine X.cd rfl (fun hc1 => ?_) (fun hc1 => ?_)
  · refine X.seq ?_
    refine X.region ?_
    iterate 2 refine Ex.pu ?_
    refine Ex.nil ?_
    refine X.ret ?_
    refine RetQ.ret (.one (.tmp rfl (LeV.eq ?_)))
    all_goals (by_cases hm : m.Ok <;> simp_all [ckM, ckMV] <;> omega)
  refine X.skip ?_
  refine X.seq ?_
  refine X.seq ?_
  refine X.region ?_
  iterate 2 refine Ex.pu ?_
  refine ExF.at 2 ?_
  refine ExF.pu ?_
  iterate 2 refine ExF.gi ?_
  refine ExF.done ?_
  refine Ex.pu ?_
  refine Ex.nil ?_
  refine X.cd rfl (fun hc2 => ?_) (fun hc2 => ?_)
  · refine X.seq ?_
    refine X.region ?_
    refine Ex.pu ?_
    refine Ex.nil ?_
    refine X.ret ?_
    refine RetQ.ret (.one (.tmp rfl (LeV.eq ?_)))
    all_goals (by_cases hm : m.Ok <;> simp_all [ckM, ckMV] <;> omega)
  refine X.skip ?_
  refine X.seq ?_
  refine X.region ?_
  refine Ex.pu ?_
  refine Ex.nil ?_
  refine X.ret ?_
  refine RetQ.ret (.one (.tmp rfl (LeV.eq ?_)))
  all_goals (by_cases hm : m.Ok <;> simp_all [ckM, ckMV] <;> omega)
theorem C_tactusref05_Above (m : Mn) (v : Int) : Fn Tryz.prog 139 [mnA m, iv v] (.tup [iv (if ckMV m v = 0 then m.ab v else 0), iv (ckMV m v)]) := by
  refine Fn.go Tryz.func139 Tryz.ntmps139 (fun g w d => ?_)
  refine X.seq ?_
  refine X.region ?_
  refine Ex.ba ?_
  iterate 2 refine Ex.pu ?_
  refine Ex.nil ?_
  refine X.seq ?_
  refine X.region ?_
  iterate 2 refine Ex.pu ?_
  refine Ex.ca (C_tactusref05_value m v) ?_
  refine Ex.pu ?_
  refine Ex.nil ?_
  refine X.seq ?_
  refine X.seq ?_
  refine X.region ?_
  iterate 2 refine Ex.pu ?_
  refine Ex.nil ?_
  refine X.cd rfl (fun hc1 => ?_) (fun hc1 => ?_)
  · refine X.seq ?_
    refine X.region ?_
    iterate 3 refine Ex.pu ?_
    refine Ex.nil ?_
    refine X.ret ?_
    refine RetQ.ret (.many (by decide) (.cons (.tmp rfl (LeV.eq ?_)) (.cons (.tmp rfl (LeV.eq ?_)) .nil)))
    all_goals (first | (simp_all; done))
  refine X.skip ?_
  refine X.seq ?_
  refine X.seq ?_
  have hv8 := ckMV_ok hc1
  refine X.region ?_
  iterate 3 refine Ex.pu ?_
  refine Ex.nil ?_
  refine X.block ?_
  refine X.lp (ι := Nat) (fun (k : Nat) => [(2, .ptr 2 0 0 0), (7, iv (v - 1 - (k : Int)))]) (fun (k : Nat) => [(2, .box (mnE m) 23)]) (fun (k : Nat) => (k : Int) ≤ v - 1 ∧ ∀ u, v - 1 - (k : Int) < u → u < v → m.p u ≠ 3) (fun (k : Nat) => (v - 1 - k).toNat) 0 (fun k hk => ?_) (hJ := by
    exact ⟨by omega, fun u h1 h2 => by omega⟩)
  obtain ⟨hk1, hk2⟩ := hk
  refine X.seq ?_
  refine X.seq ?_
  refine X.region ?_
  iterate 2 refine Ex.pu ?_
  refine Ex.nil ?_
  refine X.cd rfl (fun hc2 => ?_) (fun hc2 => ?_)
  · refine X.skip ?_
    refine X.seq ?_
    refine X.block ?_
    refine X.seq ?_
    refine X.region ?_
    iterate 2 refine Ex.pu ?_
    refine Ex.ca (C_tactusref05_P m _) ?_
    refine Ex.pu ?_
    refine Ex.nil ?_
    refine X.cd rfl (fun hc3 => ?_) (fun hc3 => ?_)
    · refine X.seq ?_
      refine X.region ?_
      iterate 3 refine Ex.pu ?_
      refine Ex.nil ?_
      refine X.ret ?_
      refine RetQ.ret (.many (by decide) (.cons (.tmp rfl (LeV.eq ?_)) (.cons (.tmp rfl (LeV.eq ?_)) .nil)))
      all_goals (first | (rw [if_pos hc1, ab_find (by omega) (by omega) hc3 (fun u h1 h2 => hk2 u h1 h2)]; done) | (simp_all; done))
    refine X.skip ?_
    refine X.region ?_
    iterate 3 refine Ex.pu ?_
    refine Ex.nil ?_
    refine X.bk (k + 1) (hJ := by
      refine ⟨by omega, fun u h1 h2 => ?_⟩
      by_cases e : u = v - 1 - (k : Int)
      · rw [e]; exact hc3
      · exact hk2 u (by omega) h2)
  · refine X.exit ?_
    refine X.seq ?_
    refine X.region ?_
    iterate 2 refine Ex.pu ?_
    refine Ex.nil ?_
    refine X.ret ?_
    refine RetQ.ret (.many (by decide) (.cons (.tmp rfl (LeV.eq ?_)) (.cons (.tmp rfl (LeV.eq ?_)) .nil)))
    all_goals (first | (rw [if_pos hc1, ab_zero (fun u h1 h2 => hk2 u (by omega) h2)]; done) | (simp_all; done))
end Go.Rse
