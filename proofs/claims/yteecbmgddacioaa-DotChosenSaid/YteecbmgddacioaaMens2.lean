/-
  Walks: the nearest perfect value above.
-/
import Derived.Test.YteecbmgddacioaaIter2
namespace Go.Rse
open Go Go.Proofs
set_option linter.unusedVariables false
set_option linter.unusedSimpArgs false
attribute [local irreducible] Pur StepA StepM Ex X ExG Fn Imp LeV LeB FnO It YStep
/-- The nearest perfect value greater than v (in rank: smaller in number); 0 if there is none. -/
def Mn.ab (m : Mn) (v : Int) : Int := ((perfL m).find? fun k => decide (k < v)).getD 0
theorem perfX_inv {m : Mn} {j : Nat} {zs : List AV} (h : (perfX m)[j]? = some zs) : ∃ k, (perfL m)[j]? = some k ∧ zs = [iv k] := by
  rw [perfX, List.getElem?_map] at h
  cases hk : (perfL m)[j]? with
  | none => simp [hk] at h
  | some k => simp [hk] at h; exact ⟨k, rfl, h.symm⟩
theorem ab_hit {m : Mn} {v : Int} {j : Nat} {k : Int} (h : (perfL m)[j]? = some k) (hJ : ∀ i, i < j → ∀ k, (perfL m)[i]? = some k → ¬ k < v) (hk : k < v) : m.ab v = k := by
  unfold Mn.ab
  generalize perfL m = l at h hJ
  induction l generalizing j with
  | nil => simp at h
  | cons x r ih =>
    cases j with
    | zero => simp at h; subst h; simp [hk]
    | succ j =>
      have hx := hJ 0 (by omega) x (by simp)
      simp only [List.find?_cons, decide_eq_true_eq, decide_eq_false hx]
      exact ih (by simpa using h) (fun i hi k hk => hJ (i + 1) (by omega) k (by simpa using hk))
theorem ab_none {m : Mn} {v : Int} (hJ : ∀ i, i < (perfL m).length → ∀ k, (perfL m)[i]? = some k → ¬ k < v) : m.ab v = 0 := by
  unfold Mn.ab
  rw [List.find?_eq_none.2 (fun x hx => ?_)]
  · rfl
  · obtain ⟨i, hi⟩ := List.mem_iff_getElem?.1 hx
    have := hJ i (List.getElem?_eq_some_iff.1 hi).1 x hi
    simpa using this
theorem C_mens_Above (m : Mn) (v : Int) : Fn Try.prog 120 [mnA m, iv v] (.tup [iv (if ckMV m v = 0 then m.ab v else 0), iv (ckMV m v)]) := by
  refine Fn.intro (ts := [(0, mnA m), (1, iv v)]) (rv := [.cell 4 3, .cell 5 30]) (n := 21) (by kernel_rfl) Try.func120 rfl Try.ntmps120 rfl rfl rfl (by simp) (fun g w d => ?_)
  refine X.seq ?_
  refine X.region ?_
  refine Ex.stepA (A_box_agg (k := 2) rfl rfl) rfl rfl ?_
  refine Ex.stepA (A_box (k := 3) rfl rfl rfl) rfl rfl ?_
  refine Ex.stepA (A_alloc (k := 4) zc3) rfl rfl ?_
  refine Ex.stepA (A_alloc (k := 5) zc30) rfl rfl ?_
  refine Ex.nil ?_
  refine X.seq ?_
  refine X.seq ?_
  refine X.region ?_
  first
    | refine Ex.pur (P_load_box_all rfl rfl rfl rfl ty23) rfl ?_
    | refine Ex.pur (P_load_ept_all rfl rfl rfl ty23) rfl ?_
    | refine Ex.pur (P_load_ept_part rfl rfl rfl rfl ty23) rfl ?_
    | refine Ex.pur (P_load_box_part rfl rfl rfl rfl ty23) rfl ?_
  first
    | refine Ex.pur (P_load_box rfl rfl rfl ty3) rfl ?_
    | refine Ex.pur (P_load_ept rfl rfl rfl ty3) rfl ?_
    | refine Ex.pur (P_load_row rfl rfl (by assumption) rfl rfl ty3) rfl ?_
  refine Ex.call rfl rfl rfl (C_mens_checked m v) rfl ?_
  refine Ex.pur (P_assign rfl) rfl ?_
  refine Ex.nil ?_
  refine X.seq ?_
  refine X.region ?_
  refine Ex.pur (P_move rfl) rfl ?_
  refine Ex.pur (P_neq rfl rfl) rfl ?_
  refine Ex.nil ?_
  refine X.cond rfl (fun hc1 => ?_) (fun hc1 => ?_)
  · try simp only [decide_eq_true_eq, decide_eq_false_iff_not, Bool.not_eq_true', Bool.not_eq_false', Bool.and_eq_true, Bool.or_eq_true, Bool.and_eq_false_iff, Bool.or_eq_false_iff, Int.not_lt, Int.not_le, Decidable.not_not] at hc1
    refine X.seq ?_
    refine X.region ?_
    refine Ex.pur (P_move rfl) rfl ?_
    first
      | refine Ex.stepM (M_store rfl rfl rfl rfl ty3 (ltB rfl)) ?_
      | refine Ex.stepM (M_store_row rfl rfl (by assumption) rfl rfl ty3 rfl) ?_
    first
      | refine Ex.stepM (M_store rfl rfl rfl rfl ty30 (ltB rfl)) ?_
      | refine Ex.stepM (M_store_row rfl rfl (by assumption) rfl rfl ty30 rfl) ?_
    refine Ex.nil ?_
    refine X.ret ?_
    refine RetQ.ret (.many (by decide) (.cons (.cellS rfl rfl rfl ty3 (LeV.eq ?_)) (.cons (.cellS rfl rfl rfl ty30 (LeV.eq ?_)) .nil)))
    all_goals (first | (simp_all; done))
  try simp only [decide_eq_true_eq, decide_eq_false_iff_not, Bool.not_eq_true', Bool.not_eq_false', Bool.and_eq_true, Bool.or_eq_true, Bool.and_eq_false_iff, Bool.or_eq_false_iff, Int.not_lt, Int.not_le, Decidable.not_not] at hc1
  refine X.skip ?_
  refine X.seq ?_
  refine X.seq ?_
  refine X.region ?_
  first
    | refine Ex.pur (P_load_box_all rfl rfl rfl rfl ty23) rfl ?_
    | refine Ex.pur (P_load_ept_all rfl rfl rfl ty23) rfl ?_
    | refine Ex.pur (P_load_ept_part rfl rfl rfl rfl ty23) rfl ?_
    | refine Ex.pur (P_load_box_part rfl rfl rfl rfl ty23) rfl ?_
  refine Ex.call rfl rfl rfl (C_mens_perfect m) rfl ?_
  refine Ex.nil ?_
  refine X.block ?_
  refine X.range (sl := [3, 4, 5]) (fun j => ([.ptr 3 0 0 0, .ptr 4 0 0 0, .ptr 5 0 0 0], [(3, .box [iv v] 3), (4, .box [iv 0] 3), (5, .box [iv 0] 30)])) (fun j => ∀ i, i < j → ∀ k, (perfL m)[i]? = some k → ¬ k < v) 900001 900002 rfl rfl (by decide) (fun j zs hj => by obtain ⟨k, _, rfl⟩ := perfX_inv hj; rfl) (C_mens_perfect_1 m) trivial rfl rfl (by decide) (Nat.zero_le _) (by simp) (fun j zs hj => by obtain ⟨k, _, rfl⟩ := perfX_inv hj; rfl) (fun _ => rfl) rfl rfl (fun l o us => Imp.of (by (repeat' (first | exact True.intro | (refine And.intro ⟨_, rfl, ?_⟩ ?_; (first | exact LeV.refl _ | exact LeV.any _ | exact LeB.refl _ | (refine LeV.eq ?_; simp; done) | (refine LeV.eq ?_; congr 1; omega) | exact LeV.nils _ | (refine LeB.eq ?_; congr 1; omega) | (refine LeB.eq ?_; congr 1; simp only [cond_true, cond_false]; omega)))))) (by (repeat' (first | exact True.intro | (refine And.intro ⟨_, rfl, ?_⟩ ?_; (first | exact LeV.refl _ | exact LeV.any _ | exact LeB.refl _ | (refine LeV.eq ?_; simp; done) | (refine LeV.eq ?_; congr 1; omega) | exact LeV.nils _ | (refine LeB.eq ?_; congr 1; omega) | (refine LeB.eq ?_; congr 1; simp only [cond_true, cond_false]; omega))))))) (fun i hi => absurd hi (Nat.not_lt_zero i)) (fun j zs hj hJ l ready busy rb vs g w hb hyB => ?_) (fun hJ => ?_)
  · obtain ⟨k, hk, rfl⟩ := perfX_inv hj
    refine X.region ?_
    refine Ex.pur (P_assign rfl) rfl ?_
    refine Ex.nil ?_
    refine ⟨rfl, rfl, ?_⟩
    refine X.block ?_
    refine X.seq ?_
    refine X.region ?_
    refine Ex.pur (P_move rfl) rfl ?_
    first
      | refine Ex.pur (P_load_box rfl rfl rfl ty3) rfl ?_
      | refine Ex.pur (P_load_ept rfl rfl rfl ty3) rfl ?_
      | refine Ex.pur (P_load_row rfl rfl (by assumption) rfl rfl ty3) rfl ?_
    refine Ex.pur (P_lss rfl rfl) rfl ?_
    refine Ex.nil ?_
    refine X.cond rfl (fun hc2 => ?_) (fun hc2 => ?_)
    · try simp only [decide_eq_true_eq, decide_eq_false_iff_not, Bool.not_eq_true', Bool.not_eq_false', Bool.and_eq_true, Bool.or_eq_true, Bool.and_eq_false_iff, Bool.or_eq_false_iff, Int.not_lt, Int.not_le, Decidable.not_not] at hc2
      refine X.seq ?_
      refine X.region ?_
      refine Ex.pur (P_move rfl) rfl ?_
      first
        | refine Ex.stepM (M_store rfl rfl rfl rfl ty3 (ltB rfl)) ?_
        | refine Ex.stepM (M_store_row rfl rfl (by assumption) rfl rfl ty3 rfl) ?_
      first
        | refine Ex.stepM (M_store rfl rfl rfl rfl ty30 (ltB rfl)) ?_
        | refine Ex.stepM (M_store_row rfl rfl (by assumption) rfl rfl ty30 rfl) ?_
      refine Ex.nil ?_
      refine X.ret ?_
      refine ⟨[.ptr 3 0 0 0, .ptr 4 0 0 0, .ptr 5 0 0 0], [(3, .box [iv v] 3), (4, .box [iv k] 3), (5, .box [iv 0] 30)], Imp.of (by (repeat' (first | exact True.intro | (refine And.intro ⟨_, rfl, ?_⟩ ?_; (first | exact LeV.refl _ | exact LeV.any _ | exact LeB.refl _ | (refine LeV.eq ?_; simp; done) | (refine LeV.eq ?_; congr 1; omega) | exact LeV.nils _ | (refine LeB.eq ?_; congr 1; omega) | (refine LeB.eq ?_; congr 1; simp only [cond_true, cond_false]; omega)))))) (by (repeat' (first | exact True.intro | (refine And.intro ⟨_, rfl, ?_⟩ ?_; (first | exact LeV.refl _ | exact LeV.any _ | exact LeB.refl _ | (refine LeV.eq ?_; simp; done) | (refine LeV.eq ?_; congr 1; omega) | exact LeV.nils _ | (refine LeB.eq ?_; congr 1; omega) | (refine LeB.eq ?_; congr 1; simp only [cond_true, cond_false]; omega)))))), ?_⟩
      refine RetQ.ret (.many (by decide) (.cons (.cellS rfl rfl rfl ty3 (LeV.eq ?_)) (.cons (.cellS rfl rfl rfl ty30 (LeV.eq ?_)) .nil)))
      all_goals (first | (simp only [hc1, if_true]; rw [ab_hit hk hJ hc2]; done) | (simp_all; done))
    try simp only [decide_eq_true_eq, decide_eq_false_iff_not, Bool.not_eq_true', Bool.not_eq_false', Bool.and_eq_true, Bool.or_eq_true, Bool.and_eq_false_iff, Bool.or_eq_false_iff, Int.not_lt, Int.not_le, Decidable.not_not] at hc2
    refine X.skip ?_
    refine ⟨[.ptr 3 0 0 0, .ptr 4 0 0 0, .ptr 5 0 0 0], [(3, .box [iv v] 3), (4, .box [iv 0] 3), (5, .box [iv 0] 30)], Imp.of (by (repeat' (first | exact True.intro | (refine And.intro ⟨_, rfl, ?_⟩ ?_; (first | exact LeV.refl _ | exact LeV.any _ | exact LeB.refl _ | (refine LeV.eq ?_; simp; done) | (refine LeV.eq ?_; congr 1; omega) | exact LeV.nils _ | (refine LeB.eq ?_; congr 1; omega) | (refine LeB.eq ?_; congr 1; simp only [cond_true, cond_false]; omega)))))) (by (repeat' (first | exact True.intro | (refine And.intro ⟨_, rfl, ?_⟩ ?_; (first | exact LeV.refl _ | exact LeV.any _ | exact LeB.refl _ | (refine LeV.eq ?_; simp; done) | (refine LeV.eq ?_; congr 1; omega) | exact LeV.nils _ | (refine LeB.eq ?_; congr 1; omega) | (refine LeB.eq ?_; congr 1; simp only [cond_true, cond_false]; omega)))))), rfl, fun i hi k2 hk2 => by
  rcases Nat.lt_succ_iff_lt_or_eq.1 hi with h | h
  · exact hJ i h k2 hk2
  · subst h; rw [hk] at hk2; injection hk2 with hk2; subst hk2; omega⟩
  refine X.seq ?_
  refine X.region ?_
  first
    | refine Ex.stepM (M_store rfl rfl rfl rfl ty3 (ltB rfl)) ?_
    | refine Ex.stepM (M_store_row rfl rfl (by assumption) rfl rfl ty3 rfl) ?_
  first
    | refine Ex.stepM (M_store rfl rfl rfl rfl ty30 (ltB rfl)) ?_
    | refine Ex.stepM (M_store_row rfl rfl (by assumption) rfl rfl ty30 rfl) ?_
  refine Ex.nil ?_
  refine X.ret ?_
  refine RetQ.ret (.many (by decide) (.cons (.cellS rfl rfl rfl ty3 (LeV.eq ?_)) (.cons (.cellS rfl rfl rfl ty30 (LeV.eq ?_)) .nil)))
  all_goals (first | (simp only [hc1, if_true]; rw [ab_none (by simpa [perfX] using hJ)]; done) | (simp_all; done))
end Go.Rse
