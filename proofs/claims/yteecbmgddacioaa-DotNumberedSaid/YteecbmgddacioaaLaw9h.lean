/-
  Walks: the order of combinations.
-/
import Derived.Test.YteecbmgddacioaaLaw9g
namespace Go.Rse
open Go Go.Proofs
set_option linter.unusedVariables false
set_option linter.unusedSimpArgs false
attribute [local irreducible] Pur StepA StepM Ex X ExG Fn Imp LeV LeB FnO It YStep
/-- The first place where the lists differ has a smaller number in a. -/
def lessL : List Int → List Int → Bool
  | x :: a, y :: b => if x = y then lessL a b else decide (x < y)
  | _, _ => false
theorem lessL_at {a b : List Int} {k : Nat} {x y : Int} (ha : a[k]? = some x) (hb : b[k]? = some y) : lessL (a.drop k) (b.drop k) = if x = y then lessL (a.drop (k + 1)) (b.drop (k + 1)) else decide (x < y) := by
  have h1 := (List.getElem?_eq_some_iff.1 ha)
  have h2 := (List.getElem?_eq_some_iff.1 hb)
  rw [List.drop_eq_getElem_cons h1.1, List.drop_eq_getElem_cons h2.1, h1.2, h2.2]; rfl
theorem C_tactuslaw09_less (a b : List Int) (hl : a.length ≤ 4000000000) : Fn Try.prog 60 [intsA a, intsA b] (.bool (decide (a.length = b.length) && lessL a b)) := by
  refine Fn.intro (ts := [(0, intsA a), (1, intsA b)]) (rv := [.tmp 4]) (n := 35) (by kernel_rfl) Try.func60 rfl Try.ntmps60 rfl rfl rfl (by simp) (fun g w d => ?_)
  refine X.seq ?_
  refine X.region ?_
  refine Ex.pur (P_assign rfl) rfl ?_
  refine Ex.nil ?_
  refine X.seq ?_
  refine X.seq ?_
  refine X.region ?_
  refine Ex.pur (P_move rfl) rfl ?_
  first
    | refine Ex.pur (P_len_sl rfl sl29) rfl ?_
    | refine Ex.pur (P_len_own rfl rfl sl29) rfl ?_
    | refine Ex.pur (P_len_nils rfl sl29) rfl ?_
  refine Ex.pur (P_move rfl) rfl ?_
  first
    | refine Ex.pur (P_len_sl rfl sl29) rfl ?_
    | refine Ex.pur (P_len_own rfl rfl sl29) rfl ?_
    | refine Ex.pur (P_len_nils rfl sl29) rfl ?_
  refine Ex.pur (P_neq rfl rfl) rfl ?_
  refine Ex.nil ?_
  refine X.cond rfl (fun hc1 => ?_) (fun hc1 => ?_)
  · try simp only [decide_eq_true_eq, decide_eq_false_iff_not, Bool.not_eq_true', Bool.not_eq_false', Bool.and_eq_true, Bool.or_eq_true, Bool.and_eq_false_iff, Bool.or_eq_false_iff, Int.not_lt, Int.not_le, Decidable.not_not] at hc1
    refine X.seq ?_
    refine X.region ?_
    refine Ex.pur (P_assign rfl) rfl ?_
    refine Ex.nil ?_
    refine X.ret ?_
    refine RetQ.ret (.one (.tmp rfl (LeV.eq ?_)))
    all_goals (congr 1; rw [decide_eq_false (show ¬ a.length = b.length by omega)]; rfl)
  try simp only [decide_eq_true_eq, decide_eq_false_iff_not, Bool.not_eq_true', Bool.not_eq_false', Bool.and_eq_true, Bool.or_eq_true, Bool.and_eq_false_iff, Bool.or_eq_false_iff, Int.not_lt, Int.not_le, Decidable.not_not] at hc1
  refine X.skip ?_
  refine X.seq ?_
  refine X.seq ?_
  refine X.region ?_
  refine Ex.pur (P_assign rfl) rfl ?_
  refine Ex.nil ?_
  refine X.block ?_
  refine X.loop (ι := Nat) (fun (k : Nat) => ⟨[(0, intsA a), (1, intsA b), (5, iv (k : Int))], []⟩) (fun (k : Nat) => k ≤ a.length ∧ lessL a b = lessL (a.drop k) (b.drop k)) (fun (k : Nat) => a.length - k) 0 ?_ ?_ (fun k hk => ?_)
  · exact Imp.of (by (repeat' (first | exact True.intro | (refine And.intro ⟨_, rfl, ?_⟩ ?_; (first | exact LeV.refl _ | exact LeV.any _ | exact LeB.refl _ | (refine LeV.eq ?_; simp; done) | (refine LeV.eq ?_; congr 1; omega) | (refine LeV.eq ?_; dsimp only; congr 1; omega) | (refine LeV.eq (congrArg (AV.int _) ?_); omega) | exact LeV.nils _ | exact LeB.row (by assumption) | (refine LeB.eq ?_; congr 1; omega) | (refine LeB.eq ?_; congr 1; simp only [cond_true, cond_false]; omega)))))) (by (repeat' (first | exact True.intro | (refine And.intro ⟨_, rfl, ?_⟩ ?_; (first | exact LeV.refl _ | exact LeV.any _ | exact LeB.refl _ | (refine LeV.eq ?_; simp; done) | (refine LeV.eq ?_; congr 1; omega) | (refine LeV.eq ?_; dsimp only; congr 1; omega) | (refine LeV.eq (congrArg (AV.int _) ?_); omega) | exact LeV.nils _ | exact LeB.row (by assumption) | (refine LeB.eq ?_; congr 1; omega) | (refine LeB.eq ?_; congr 1; simp only [cond_true, cond_false]; omega))))))
  · exact ⟨by omega, rfl⟩
  obtain ⟨hk1, hk2⟩ := hk
  refine X.seq ?_
  refine X.seq ?_
  refine X.region ?_
  refine Ex.pur (P_move rfl) rfl ?_
  refine Ex.pur (P_move rfl) rfl ?_
  first
    | refine Ex.pur (P_len_sl rfl sl29) rfl ?_
    | refine Ex.pur (P_len_own rfl rfl sl29) rfl ?_
    | refine Ex.pur (P_len_nils rfl sl29) rfl ?_
  refine Ex.pur (P_lss rfl rfl) rfl ?_
  refine Ex.nil ?_
  refine X.cond rfl (fun hc2 => ?_) (fun hc2 => ?_)
  · try simp only [decide_eq_true_eq, decide_eq_false_iff_not, Bool.not_eq_true', Bool.not_eq_false', Bool.and_eq_true, Bool.or_eq_true, Bool.and_eq_false_iff, Bool.or_eq_false_iff, Int.not_lt, Int.not_le, Decidable.not_not] at hc2
    obtain ⟨x, hx⟩ : ∃ x, a[k]? = some x := ⟨_, List.getElem?_eq_getElem (by omega)⟩
    have hx2 : a[(k : Int).toNat]? = some x := by simpa using hx
    obtain ⟨y, hy⟩ : ∃ y, b[k]? = some y := ⟨_, List.getElem?_eq_getElem (by omega)⟩
    have hy2 : b[(k : Int).toNat]? = some y := by simpa using hy
    refine X.skip ?_
    refine X.seq ?_
    refine X.block ?_
    refine X.seq ?_
    refine X.draw [17, 18, 19, 20, 21, 22, 23, 24, 25] mo rfl ?_
    refine Chain.step [] rfl rfl rfl (Pur.stepA (P_move rfl)) rfl ?_
    refine Chain.step [] rfl rfl rfl (Pur.stepA (P_move rfl)) rfl ?_
    first
      | refine Chain.step [1, 0] rfl rfl rfl (Pur.stepA (P_index_sl rfl rfl sl29 ty3 (fun _ => rfl) (by omega) (by assumption))) rfl ?_
      | refine Chain.step [1, 0] rfl rfl rfl (Pur.stepA (P_index_own rfl rfl rfl sl29 ty3 (by omega) (by omega))) rfl ?_
    first
      | refine Chain.step [1, 0, 2] rfl rfl rfl (Pur.stepA (P_load_box rfl rfl rfl ty3)) rfl ?_
      | refine Chain.step [1, 0, 2] rfl rfl rfl (Pur.stepA (P_load_ept rfl rfl rfl ty3)) rfl ?_
      | refine Chain.step [1, 0, 2] rfl rfl rfl (Pur.stepA (P_load_row rfl rfl (by assumption) rfl rfl ty3)) rfl ?_
    refine Chain.step [] rfl rfl rfl (Pur.stepA (P_move rfl)) rfl ?_
    refine Chain.step [] rfl rfl rfl (Pur.stepA (P_move rfl)) rfl ?_
    first
      | refine Chain.step [5, 4] rfl rfl rfl (Pur.stepA (P_index_sl rfl rfl sl29 ty3 (fun _ => rfl) (by omega) (by assumption))) rfl ?_
      | refine Chain.step [5, 4] rfl rfl rfl (Pur.stepA (P_index_own rfl rfl rfl sl29 ty3 (by omega) (by omega))) rfl ?_
    first
      | refine Chain.step [5, 4, 6] rfl rfl rfl (Pur.stepA (P_load_box rfl rfl rfl ty3)) rfl ?_
      | refine Chain.step [5, 4, 6] rfl rfl rfl (Pur.stepA (P_load_ept rfl rfl rfl ty3)) rfl ?_
      | refine Chain.step [5, 4, 6] rfl rfl rfl (Pur.stepA (P_load_row rfl rfl (by assumption) rfl rfl ty3)) rfl ?_
    refine Chain.step [5, 4, 1, 0, 6, 2, 7, 3] rfl rfl rfl (Pur.stepA (P_neq rfl rfl)) rfl ?_
    refine Chain.tail [] rfl rfl ?_
    refine Ex.nil ?_
    refine X.cond rfl (fun hc3 => ?_) (fun hc3 => ?_)
    · try simp only [decide_eq_true_eq, decide_eq_false_iff_not, Bool.not_eq_true', Bool.not_eq_false', Bool.and_eq_true, Bool.or_eq_true, Bool.and_eq_false_iff, Bool.or_eq_false_iff, Int.not_lt, Int.not_le, Decidable.not_not] at hc3
      refine X.seq ?_
      refine X.draw [4, 26, 27, 28, 29, 30, 31, 32, 33, 34] mo rfl ?_
      refine Chain.step [] rfl rfl rfl (Pur.stepA (P_move rfl)) rfl ?_
      refine Chain.step [] rfl rfl rfl (Pur.stepA (P_move rfl)) rfl ?_
      first
        | refine Chain.step [1, 0] rfl rfl rfl (Pur.stepA (P_index_sl rfl rfl sl29 ty3 (fun _ => rfl) (by omega) (by assumption))) rfl ?_
        | refine Chain.step [1, 0] rfl rfl rfl (Pur.stepA (P_index_own rfl rfl rfl sl29 ty3 (by omega) (by omega))) rfl ?_
      first
        | refine Chain.step [1, 0, 2] rfl rfl rfl (Pur.stepA (P_load_box rfl rfl rfl ty3)) rfl ?_
        | refine Chain.step [1, 0, 2] rfl rfl rfl (Pur.stepA (P_load_ept rfl rfl rfl ty3)) rfl ?_
        | refine Chain.step [1, 0, 2] rfl rfl rfl (Pur.stepA (P_load_row rfl rfl (by assumption) rfl rfl ty3)) rfl ?_
      refine Chain.step [] rfl rfl rfl (Pur.stepA (P_move rfl)) rfl ?_
      refine Chain.step [] rfl rfl rfl (Pur.stepA (P_move rfl)) rfl ?_
      first
        | refine Chain.step [5, 4] rfl rfl rfl (Pur.stepA (P_index_sl rfl rfl sl29 ty3 (fun _ => rfl) (by omega) (by assumption))) rfl ?_
        | refine Chain.step [5, 4] rfl rfl rfl (Pur.stepA (P_index_own rfl rfl rfl sl29 ty3 (by omega) (by omega))) rfl ?_
      first
        | refine Chain.step [5, 4, 6] rfl rfl rfl (Pur.stepA (P_load_box rfl rfl rfl ty3)) rfl ?_
        | refine Chain.step [5, 4, 6] rfl rfl rfl (Pur.stepA (P_load_ept rfl rfl rfl ty3)) rfl ?_
        | refine Chain.step [5, 4, 6] rfl rfl rfl (Pur.stepA (P_load_row rfl rfl (by assumption) rfl rfl ty3)) rfl ?_
      refine Chain.step [5, 4, 1, 0, 6, 2, 7, 3] rfl rfl rfl (Pur.stepA (P_lss rfl rfl)) rfl ?_
      refine Chain.step [7, 6, 5, 4, 3, 2, 1, 0, 8] rfl rfl rfl (Pur.stepA (P_assign rfl)) rfl ?_
      refine Chain.tail [] rfl rfl ?_
      refine Ex.nil ?_
      refine X.ret ?_
      refine RetQ.ret (.one (.tmp rfl (LeV.eq ?_)))
      all_goals (show AV.bool (decide (x < y)) = AV.bool _; congr 1; rw [hk2, lessL_at hx hy, if_neg (by first | exact hc3 | (simpa using hc3)), decide_eq_true (show a.length = b.length by omega), Bool.true_and])
    try simp only [decide_eq_true_eq, decide_eq_false_iff_not, Bool.not_eq_true', Bool.not_eq_false', Bool.and_eq_true, Bool.or_eq_true, Bool.and_eq_false_iff, Bool.or_eq_false_iff, Int.not_lt, Int.not_le, Decidable.not_not] at hc3
    refine X.skip ?_
    refine X.region ?_
    refine Ex.pur (P_move rfl) rfl ?_
    refine Ex.pur (P_add rfl rfl (IntWalk.i64_in _ (by omega))) rfl ?_
    refine Ex.pur (P_assign rfl) rfl ?_
    refine Ex.nil ?_
    refine ⟨k + 1, Imp.of (by (repeat' (first | exact True.intro | (refine And.intro ⟨_, rfl, ?_⟩ ?_; (first | exact LeV.refl _ | exact LeV.any _ | exact LeB.refl _ | (refine LeV.eq ?_; simp; done) | (refine LeV.eq ?_; congr 1; omega) | (refine LeV.eq ?_; dsimp only; congr 1; omega) | (refine LeV.eq (congrArg (AV.int _) ?_); omega) | exact LeV.nils _ | exact LeB.row (by assumption) | (refine LeB.eq ?_; congr 1; omega) | (refine LeB.eq ?_; congr 1; simp only [cond_true, cond_false]; omega)))))) (by (repeat' (first | exact True.intro | (refine And.intro ⟨_, rfl, ?_⟩ ?_; (first | exact LeV.refl _ | exact LeV.any _ | exact LeB.refl _ | (refine LeV.eq ?_; simp; done) | (refine LeV.eq ?_; congr 1; omega) | (refine LeV.eq ?_; dsimp only; congr 1; omega) | (refine LeV.eq (congrArg (AV.int _) ?_); omega) | exact LeV.nils _ | exact LeB.row (by assumption) | (refine LeB.eq ?_; congr 1; omega) | (refine LeB.eq ?_; congr 1; simp only [cond_true, cond_false]; omega)))))), ?_, ?_⟩
    · exact ⟨by omega, by rw [hk2, lessL_at hx hy, if_pos (by first | exact hc3 | (simpa using hc3))]⟩
    · omega
  · try simp only [decide_eq_true_eq, decide_eq_false_iff_not, Bool.not_eq_true', Bool.not_eq_false', Bool.and_eq_true, Bool.or_eq_true, Bool.and_eq_false_iff, Bool.or_eq_false_iff, Int.not_lt, Int.not_le, Decidable.not_not] at hc2
    refine X.exit ?_
    refine X.seq ?_
    refine X.region ?_
    refine Ex.pur (P_assign rfl) rfl ?_
    refine Ex.nil ?_
    refine X.ret ?_
    refine RetQ.ret (.one (.tmp rfl (LeV.eq ?_)))
    all_goals (congr 1; rw [hk2, List.drop_of_length_le (show a.length ≤ k by omega)]; simp [lessL])
end Go.Rse
