/-
  Walks: comparisons of lists, signs in new memory, and the statement on the meanings of dots.
-/
import Derived.Test.YteecbmgddacioaaRef9
import Derived.Test.YteecbmgddacioaaRse23
namespace Go.Rse
open Go Go.Proofs
set_option linter.unusedVariables false
set_option linter.unusedSimpArgs false
attribute [local irreducible] Pur StepA StepM Ex X ExG Fn Imp LeV LeB FnO It YStep
theorem take_step {α : Type} {a b : List α} {k : Nat} {x : α} (ha : a[k]? = some x) (hb : b[k]? = some x) (h : a.take k = b.take k) : a.take (k + 1) = b.take (k + 1) := by
  rw [List.take_add_one, List.take_add_one, ha, hb, h]
theorem eq_take {α : Type} {a b : List α} {k : Nat} (hl : a.length = b.length) (hk : a.length ≤ k) (h : a.take k = b.take k) : a = b := by
  rwa [List.take_of_length_le hk, List.take_of_length_le (by omega)] at h
theorem ne_at {α : Type} {a b : List α} {k : Nat} {x y : α} (ha : a[k]? = some x) (hb : b[k]? = some y) (h : x ≠ y) : a ≠ b := fun e => by
  subst e; rw [ha] at hb; injection hb with hb; exact h hb
def sgZ : Sg := ⟨0, 0, 0, 0, false, 0, false, false, ⟨0, 0, 0, 0⟩, false, 0, 0, 0, 0⟩
def sgNote (v : Int) : Sg := ⟨1, v, 0, 0, false, 0, false, false, ⟨0, 0, 0, 0⟩, false, 0, 0, 0, 0⟩
def sgRest (v : Int) : Sg := ⟨2, v, 0, 0, false, 0, false, false, ⟨0, 0, 0, 0⟩, false, 0, 0, 0, 0⟩
def sgDot : Sg := ⟨3, 0, 0, 0, false, 0, false, false, ⟨0, 0, 0, 0⟩, false, 0, 0, 0, 0⟩
theorem C_tactuskit_SameInts (a b : List Int) (hl : a.length ≤ 4000000000) : Fn Try.prog 37 [intsA a, intsA b] (.bool (decide (a = b))) := by
  refine Fn.intro (ts := [(0, intsA a), (1, intsA b)]) (rv := [.tmp 4]) (n := 26) (by kernel_rfl) Try.func37 rfl Try.ntmps37 rfl rfl rfl (by simp) (fun g w d => ?_)
  refine X.seq ?_
  refine X.region ?_
  refine Ex.pur (P_assign rfl) rfl ?_
  refine Ex.nil ?_
  refine X.seq ?_
  refine X.seq ?_
  refine X.region ?_
  refine Ex.pur (P_move rfl) rfl ?_
  first
    | refine Ex.pur (P_len_sl rfl sl29) rfl ?_
    | refine Ex.pur (P_len_own rfl rfl sl29) rfl ?_
    | refine Ex.pur (P_len_nils rfl sl29) rfl ?_
  refine Ex.pur (P_move rfl) rfl ?_
  first
    | refine Ex.pur (P_len_sl rfl sl29) rfl ?_
    | refine Ex.pur (P_len_own rfl rfl sl29) rfl ?_
    | refine Ex.pur (P_len_nils rfl sl29) rfl ?_
  refine Ex.pur (P_neq rfl rfl) rfl ?_
  refine Ex.nil ?_
  refine X.cond rfl (fun hc1 => ?_) (fun hc1 => ?_)
  · try simp only [decide_eq_true_eq, decide_eq_false_iff_not, Bool.not_eq_true', Bool.not_eq_false', Bool.and_eq_true, Bool.or_eq_true, Bool.and_eq_false_iff, Bool.or_eq_false_iff, Int.not_lt, Int.not_le, Decidable.not_not] at hc1
    refine X.seq ?_
    refine X.region ?_
    refine Ex.pur (P_assign rfl) rfl ?_
    refine Ex.nil ?_
    refine X.ret ?_
    refine RetQ.ret (.one (.tmp rfl (LeV.eq ?_)))
    all_goals (congr 1; exact (decide_eq_false fun e => by subst e; omega).symm)
  try simp only [decide_eq_true_eq, decide_eq_false_iff_not, Bool.not_eq_true', Bool.not_eq_false', Bool.and_eq_true, Bool.or_eq_true, Bool.and_eq_false_iff, Bool.or_eq_false_iff, Int.not_lt, Int.not_le, Decidable.not_not] at hc1
  refine X.skip ?_
  refine X.seq ?_
  refine X.seq ?_
  refine X.region ?_
  refine Ex.pur (P_assign rfl) rfl ?_
  refine Ex.nil ?_
  refine X.block ?_
  refine X.loop (ι := Nat) (fun (k : Nat) => ⟨[(0, intsA a), (1, intsA b), (5, iv (k : Int))], []⟩) (fun (k : Nat) => k ≤ a.length ∧ a.take k = b.take k) (fun (k : Nat) => a.length - k) 0 ?_ ?_ (fun k hk => ?_)
  · exact Imp.of (by (repeat' (first | exact True.intro | (refine And.intro ⟨_, rfl, ?_⟩ ?_; (first | exact LeV.refl _ | exact LeV.any _ | exact LeB.refl _ | (refine LeV.eq ?_; simp; done) | (refine LeV.eq ?_; congr 1; omega) | (refine LeV.eq ?_; dsimp only; congr 1; omega) | (refine LeV.eq (congrArg (AV.int _) ?_); omega) | exact LeV.nils _ | exact LeB.row (by assumption) | (refine LeB.eq ?_; congr 1; omega) | (refine LeB.eq ?_; congr 1; simp only [cond_true, cond_false]; omega)))))) (by (repeat' (first | exact True.intro | (refine And.intro ⟨_, rfl, ?_⟩ ?_; (first | exact LeV.refl _ | exact LeV.any _ | exact LeB.refl _ | (refine LeV.eq ?_; simp; done) | (refine LeV.eq ?_; congr 1; omega) | (refine LeV.eq ?_; dsimp only; congr 1; omega) | (refine LeV.eq (congrArg (AV.int _) ?_); omega) | exact LeV.nils _ | exact LeB.row (by assumption) | (refine LeB.eq ?_; congr 1; omega) | (refine LeB.eq ?_; congr 1; simp only [cond_true, cond_false]; omega))))))
  · exact ⟨by omega, rfl⟩
  obtain ⟨hk1, hk2⟩ := hk
  refine X.seq ?_
  refine X.seq ?_
  refine X.region ?_
  refine Ex.pur (P_move rfl) rfl ?_
  refine Ex.pur (P_move rfl) rfl ?_
  first
    | refine Ex.pur (P_len_sl rfl sl29) rfl ?_
    | refine Ex.pur (P_len_own rfl rfl sl29) rfl ?_
    | refine Ex.pur (P_len_nils rfl sl29) rfl ?_
  refine Ex.pur (P_lss rfl rfl) rfl ?_
  refine Ex.nil ?_
  refine X.cond rfl (fun hc2 => ?_) (fun hc2 => ?_)
  · try simp only [decide_eq_true_eq, decide_eq_false_iff_not, Bool.not_eq_true', Bool.not_eq_false', Bool.and_eq_true, Bool.or_eq_true, Bool.and_eq_false_iff, Bool.or_eq_false_iff, Int.not_lt, Int.not_le, Decidable.not_not] at hc2
    obtain ⟨x, hx⟩ : ∃ x, a[k]? = some x := ⟨_, List.getElem?_eq_getElem (by omega)⟩
    have hx2 : a[(k : Int).toNat]? = some x := by simpa using hx
    obtain ⟨y, hy⟩ : ∃ y, b[k]? = some y := ⟨_, List.getElem?_eq_getElem (by omega)⟩
    have hy2 : b[(k : Int).toNat]? = some y := by simpa using hy
    refine X.skip ?_
    refine X.seq ?_
    refine X.block ?_
    refine X.seq ?_
    refine X.draw [17, 18, 19, 20, 21, 22, 23, 24, 25] mo rfl ?_
    refine Chain.step [] rfl rfl rfl (Pur.stepA (P_move rfl)) rfl ?_
    refine Chain.step [] rfl rfl rfl (Pur.stepA (P_move rfl)) rfl ?_
    first
      | refine Chain.step [1, 0] rfl rfl rfl (Pur.stepA (P_index_sl rfl rfl sl29 ty3 (fun _ => rfl) (by omega) (by assumption))) rfl ?_
      | refine Chain.step [1, 0] rfl rfl rfl (Pur.stepA (P_index_own rfl rfl rfl sl29 ty3 (by omega) (by omega))) rfl ?_
    first
      | refine Chain.step [1, 0, 2] rfl rfl rfl (Pur.stepA (P_load_box rfl rfl rfl ty3)) rfl ?_
      | refine Chain.step [1, 0, 2] rfl rfl rfl (Pur.stepA (P_load_ept rfl rfl rfl ty3)) rfl ?_
      | refine Chain.step [1, 0, 2] rfl rfl rfl (Pur.stepA (P_load_row rfl rfl (by assumption) rfl rfl ty3)) rfl ?_
    refine Chain.step [] rfl rfl rfl (Pur.stepA (P_move rfl)) rfl ?_
    refine Chain.step [] rfl rfl rfl (Pur.stepA (P_move rfl)) rfl ?_
    first
      | refine Chain.step [5, 4] rfl rfl rfl (Pur.stepA (P_index_sl rfl rfl sl29 ty3 (fun _ => rfl) (by omega) (by assumption))) rfl ?_
      | refine Chain.step [5, 4] rfl rfl rfl (Pur.stepA (P_index_own rfl rfl rfl sl29 ty3 (by omega) (by omega))) rfl ?_
    first
      | refine Chain.step [5, 4, 6] rfl rfl rfl (Pur.stepA (P_load_box rfl rfl rfl ty3)) rfl ?_
      | refine Chain.step [5, 4, 6] rfl rfl rfl (Pur.stepA (P_load_ept rfl rfl rfl ty3)) rfl ?_
      | refine Chain.step [5, 4, 6] rfl rfl rfl (Pur.stepA (P_load_row rfl rfl (by assumption) rfl rfl ty3)) rfl ?_
    refine Chain.step [5, 4, 1, 0, 6, 2, 7, 3] rfl rfl rfl (Pur.stepA (P_neq rfl rfl)) rfl ?_
    refine Chain.tail [] rfl rfl ?_
    refine Ex.nil ?_
    refine X.cond rfl (fun hc3 => ?_) (fun hc3 => ?_)
    · try simp only [decide_eq_true_eq, decide_eq_false_iff_not, Bool.not_eq_true', Bool.not_eq_false', Bool.and_eq_true, Bool.or_eq_true, Bool.and_eq_false_iff, Bool.or_eq_false_iff, Int.not_lt, Int.not_le, Decidable.not_not] at hc3
      refine X.seq ?_
      refine X.region ?_
      refine Ex.pur (P_assign rfl) rfl ?_
      refine Ex.nil ?_
      refine X.ret ?_
      refine RetQ.ret (.one (.tmp rfl (LeV.eq ?_)))
      all_goals (congr 1; exact (decide_eq_false (ne_at hx hy (by simpa using hc3))).symm)
    try simp only [decide_eq_true_eq, decide_eq_false_iff_not, Bool.not_eq_true', Bool.not_eq_false', Bool.and_eq_true, Bool.or_eq_true, Bool.and_eq_false_iff, Bool.or_eq_false_iff, Int.not_lt, Int.not_le, Decidable.not_not] at hc3
    refine X.skip ?_
    refine X.region ?_
    refine Ex.pur (P_move rfl) rfl ?_
    refine Ex.pur (P_add rfl rfl (IntWalk.i64_in _ (by omega))) rfl ?_
    refine Ex.pur (P_assign rfl) rfl ?_
    refine Ex.nil ?_
    refine ⟨k + 1, Imp.of (by (repeat' (first | exact True.intro | (refine And.intro ⟨_, rfl, ?_⟩ ?_; (first | exact LeV.refl _ | exact LeV.any _ | exact LeB.refl _ | (refine LeV.eq ?_; simp; done) | (refine LeV.eq ?_; congr 1; omega) | (refine LeV.eq ?_; dsimp only; congr 1; omega) | (refine LeV.eq (congrArg (AV.int _) ?_); omega) | exact LeV.nils _ | exact LeB.row (by assumption) | (refine LeB.eq ?_; congr 1; omega) | (refine LeB.eq ?_; congr 1; simp only [cond_true, cond_false]; omega)))))) (by (repeat' (first | exact True.intro | (refine And.intro ⟨_, rfl, ?_⟩ ?_; (first | exact LeV.refl _ | exact LeV.any _ | exact LeB.refl _ | (refine LeV.eq ?_; simp; done) | (refine LeV.eq ?_; congr 1; omega) | (refine LeV.eq ?_; dsimp only; congr 1; omega) | (refine LeV.eq (congrArg (AV.int _) ?_); omega) | exact LeV.nils _ | exact LeB.row (by assumption) | (refine LeB.eq ?_; congr 1; omega) | (refine LeB.eq ?_; congr 1; simp only [cond_true, cond_false]; omega)))))), ?_, ?_⟩
    · exact ⟨by omega, take_step hx (by rw [hy]; congr 1; first | exact (by simpa using hc3 : x = y).symm | (simp at hc3; exact hc3.symm)) hk2⟩
    · omega
  · try simp only [decide_eq_true_eq, decide_eq_false_iff_not, Bool.not_eq_true', Bool.not_eq_false', Bool.and_eq_true, Bool.or_eq_true, Bool.and_eq_false_iff, Bool.or_eq_false_iff, Int.not_lt, Int.not_le, Decidable.not_not] at hc2
    refine X.exit ?_
    refine X.seq ?_
    refine X.region ?_
    refine Ex.pur (P_assign rfl) rfl ?_
    refine Ex.nil ?_
    refine X.ret ?_
    refine RetQ.ret (.one (.tmp rfl (LeV.eq ?_)))
    all_goals (congr 1; exact (decide_eq_true (eq_take (by omega) (by omega) hk2)).symm)
theorem C_tactuskit_SameLists (a b : List (List Int)) (hl : a.length ≤ 4000000000) (hi : ∀ x, x ∈ a → x.length ≤ 4000000000) : Fn Try.prog 34 [listsA a, listsA b] (.bool (decide (a = b))) := by
  refine Fn.intro (ts := [(0, listsA a), (1, listsA b)]) (rv := [.tmp 4]) (n := 27) (by kernel_rfl) Try.func34 rfl Try.ntmps34 rfl rfl rfl (by simp) (fun g w d => ?_)
  refine X.seq ?_
  refine X.region ?_
  refine Ex.pur (P_assign rfl) rfl ?_
  refine Ex.nil ?_
  refine X.seq ?_
  refine X.seq ?_
  refine X.region ?_
  refine Ex.pur (P_move rfl) rfl ?_
  first
    | refine Ex.pur (P_len_sl rfl sl43) rfl ?_
    | refine Ex.pur (P_len_own rfl rfl sl43) rfl ?_
    | refine Ex.pur (P_len_nils rfl sl43) rfl ?_
  refine Ex.pur (P_move rfl) rfl ?_
  first
    | refine Ex.pur (P_len_sl rfl sl43) rfl ?_
    | refine Ex.pur (P_len_own rfl rfl sl43) rfl ?_
    | refine Ex.pur (P_len_nils rfl sl43) rfl ?_
  refine Ex.pur (P_neq rfl rfl) rfl ?_
  refine Ex.nil ?_
  refine X.cond rfl (fun hc1 => ?_) (fun hc1 => ?_)
  · try simp only [decide_eq_true_eq, decide_eq_false_iff_not, Bool.not_eq_true', Bool.not_eq_false', Bool.and_eq_true, Bool.or_eq_true, Bool.and_eq_false_iff, Bool.or_eq_false_iff, Int.not_lt, Int.not_le, Decidable.not_not] at hc1
    refine X.seq ?_
    refine X.region ?_
    refine Ex.pur (P_assign rfl) rfl ?_
    refine Ex.nil ?_
    refine X.ret ?_
    refine RetQ.ret (.one (.tmp rfl (LeV.eq ?_)))
    all_goals (congr 1; exact (decide_eq_false fun e => by subst e; omega).symm)
  try simp only [decide_eq_true_eq, decide_eq_false_iff_not, Bool.not_eq_true', Bool.not_eq_false', Bool.and_eq_true, Bool.or_eq_true, Bool.and_eq_false_iff, Bool.or_eq_false_iff, Int.not_lt, Int.not_le, Decidable.not_not] at hc1
  refine X.skip ?_
  refine X.seq ?_
  refine X.seq ?_
  refine X.region ?_
  refine Ex.pur (P_assign rfl) rfl ?_
  refine Ex.nil ?_
  refine X.block ?_
  refine X.loop (ι := Nat) (fun (k : Nat) => ⟨[(0, listsA a), (1, listsA b), (5, iv (k : Int))], []⟩) (fun (k : Nat) => k ≤ a.length ∧ a.take k = b.take k) (fun (k : Nat) => a.length - k) 0 ?_ ?_ (fun k hk => ?_)
  · exact Imp.of (by (repeat' (first | exact True.intro | (refine And.intro ⟨_, rfl, ?_⟩ ?_; (first | exact LeV.refl _ | exact LeV.any _ | exact LeB.refl _ | (refine LeV.eq ?_; simp; done) | (refine LeV.eq ?_; congr 1; omega) | (refine LeV.eq ?_; dsimp only; congr 1; omega) | (refine LeV.eq (congrArg (AV.int _) ?_); omega) | exact LeV.nils _ | exact LeB.row (by assumption) | (refine LeB.eq ?_; congr 1; omega) | (refine LeB.eq ?_; congr 1; simp only [cond_true, cond_false]; omega)))))) (by (repeat' (first | exact True.intro | (refine And.intro ⟨_, rfl, ?_⟩ ?_; (first | exact LeV.refl _ | exact LeV.any _ | exact LeB.refl _ | (refine LeV.eq ?_; simp; done) | (refine LeV.eq ?_; congr 1; omega) | (refine LeV.eq ?_; dsimp only; congr 1; omega) | (refine LeV.eq (congrArg (AV.int _) ?_); omega) | exact LeV.nils _ | exact LeB.row (by assumption) | (refine LeB.eq ?_; congr 1; omega) | (refine LeB.eq ?_; congr 1; simp only [cond_true, cond_false]; omega))))))
  · exact ⟨by omega, rfl⟩
  obtain ⟨hk1, hk2⟩ := hk
  refine X.seq ?_
  refine X.seq ?_
  refine X.region ?_
  refine Ex.pur (P_move rfl) rfl ?_
  refine Ex.pur (P_move rfl) rfl ?_
  first
    | refine Ex.pur (P_len_sl rfl sl43) rfl ?_
    | refine Ex.pur (P_len_own rfl rfl sl43) rfl ?_
    | refine Ex.pur (P_len_nils rfl sl43) rfl ?_
  refine Ex.pur (P_lss rfl rfl) rfl ?_
  refine Ex.nil ?_
  refine X.cond rfl (fun hc2 => ?_) (fun hc2 => ?_)
  · try simp only [decide_eq_true_eq, decide_eq_false_iff_not, Bool.not_eq_true', Bool.not_eq_false', Bool.and_eq_true, Bool.or_eq_true, Bool.and_eq_false_iff, Bool.or_eq_false_iff, Int.not_lt, Int.not_le, Decidable.not_not] at hc2
    obtain ⟨x, hx⟩ : ∃ x, a[k]? = some x := ⟨_, List.getElem?_eq_getElem (by omega)⟩
    have hx2 : a[(k : Int).toNat]? = some x := by simpa using hx
    obtain ⟨y, hy⟩ : ∃ y, b[k]? = some y := ⟨_, List.getElem?_eq_getElem (by omega)⟩
    have hy2 : b[(k : Int).toNat]? = some y := by simpa using hy
    refine X.skip ?_
    refine X.seq ?_
    refine X.block ?_
    refine X.seq ?_
    refine X.draw [17, 18, 19, 20, 21, 22, 23, 24, 25, 26] mo rfl ?_
    refine Chain.step [] rfl rfl rfl (Pur.stepA (P_move rfl)) rfl ?_
    refine Chain.step [] rfl rfl rfl (Pur.stepA (P_move rfl)) rfl ?_
    first
      | refine Chain.step [1, 0] rfl rfl rfl (Pur.stepA (P_index_sl rfl rfl sl43 ty29 (fun _ => rfl) (by omega) (by assumption))) rfl ?_
      | refine Chain.step [1, 0] rfl rfl rfl (Pur.stepA (P_index_own rfl rfl rfl sl43 ty29 (by omega) (by omega))) rfl ?_
    first
      | refine Chain.step [1, 0, 2] rfl rfl rfl (Pur.stepA (P_load_box rfl rfl rfl ty29)) rfl ?_
      | refine Chain.step [1, 0, 2] rfl rfl rfl (Pur.stepA (P_load_ept rfl rfl rfl ty29)) rfl ?_
      | refine Chain.step [1, 0, 2] rfl rfl rfl (Pur.stepA (P_load_row rfl rfl (by assumption) rfl rfl ty29)) rfl ?_
    refine Chain.step [] rfl rfl rfl (Pur.stepA (P_move rfl)) rfl ?_
    refine Chain.step [] rfl rfl rfl (Pur.stepA (P_move rfl)) rfl ?_
    first
      | refine Chain.step [5, 4] rfl rfl rfl (Pur.stepA (P_index_sl rfl rfl sl43 ty29 (fun _ => rfl) (by omega) (by assumption))) rfl ?_
      | refine Chain.step [5, 4] rfl rfl rfl (Pur.stepA (P_index_own rfl rfl rfl sl43 ty29 (by omega) (by omega))) rfl ?_
    first
      | refine Chain.step [5, 4, 6] rfl rfl rfl (Pur.stepA (P_load_box rfl rfl rfl ty29)) rfl ?_
      | refine Chain.step [5, 4, 6] rfl rfl rfl (Pur.stepA (P_load_ept rfl rfl rfl ty29)) rfl ?_
      | refine Chain.step [5, 4, 6] rfl rfl rfl (Pur.stepA (P_load_row rfl rfl (by assumption) rfl rfl ty29)) rfl ?_
    refine Chain.step [5, 4, 1, 0, 6, 2, 7, 3] rfl rfl rfl (A_call rfl rfl rfl (LeL.refl _) (C_tactuskit_SameInts x y (hi x (List.mem_of_getElem? hx)))) rfl ?_
    refine Chain.step [5, 4, 1, 0, 6, 2, 7, 3, 8] rfl rfl rfl (Pur.stepA (P_not rfl)) rfl ?_
    refine Chain.tail [] rfl rfl ?_
    refine Ex.nil ?_
    refine X.cond rfl (fun hc3 => ?_) (fun hc3 => ?_)
    · try simp only [decide_eq_true_eq, decide_eq_false_iff_not, Bool.not_eq_true', Bool.not_eq_false', Bool.and_eq_true, Bool.or_eq_true, Bool.and_eq_false_iff, Bool.or_eq_false_iff, Int.not_lt, Int.not_le, Decidable.not_not] at hc3
      refine X.seq ?_
      refine X.region ?_
      refine Ex.pur (P_assign rfl) rfl ?_
      refine Ex.nil ?_
      refine X.ret ?_
      refine RetQ.ret (.one (.tmp rfl (LeV.eq ?_)))
      all_goals (congr 1; exact (decide_eq_false (ne_at hx hy (by simpa using hc3))).symm)
    try simp only [decide_eq_true_eq, decide_eq_false_iff_not, Bool.not_eq_true', Bool.not_eq_false', Bool.and_eq_true, Bool.or_eq_true, Bool.and_eq_false_iff, Bool.or_eq_false_iff, Int.not_lt, Int.not_le, Decidable.not_not] at hc3
    refine X.skip ?_
    refine X.region ?_
    refine Ex.pur (P_move rfl) rfl ?_
    refine Ex.pur (P_add rfl rfl (IntWalk.i64_in _ (by omega))) rfl ?_
    refine Ex.pur (P_assign rfl) rfl ?_
    refine Ex.nil ?_
    refine ⟨k + 1, Imp.of (by (repeat' (first | exact True.intro | (refine And.intro ⟨_, rfl, ?_⟩ ?_; (first | exact LeV.refl _ | exact LeV.any _ | exact LeB.refl _ | (refine LeV.eq ?_; simp; done) | (refine LeV.eq ?_; congr 1; omega) | (refine LeV.eq ?_; dsimp only; congr 1; omega) | (refine LeV.eq (congrArg (AV.int _) ?_); omega) | exact LeV.nils _ | exact LeB.row (by assumption) | (refine LeB.eq ?_; congr 1; omega) | (refine LeB.eq ?_; congr 1; simp only [cond_true, cond_false]; omega)))))) (by (repeat' (first | exact True.intro | (refine And.intro ⟨_, rfl, ?_⟩ ?_; (first | exact LeV.refl _ | exact LeV.any _ | exact LeB.refl _ | (refine LeV.eq ?_; simp; done) | (refine LeV.eq ?_; congr 1; omega) | (refine LeV.eq ?_; dsimp only; congr 1; omega) | (refine LeV.eq (congrArg (AV.int _) ?_); omega) | exact LeV.nils _ | exact LeB.row (by assumption) | (refine LeB.eq ?_; congr 1; omega) | (refine LeB.eq ?_; congr 1; simp only [cond_true, cond_false]; omega)))))), ?_, ?_⟩
    · exact ⟨by omega, take_step hx (by rw [hy]; congr 1; first | exact (by simpa using hc3 : x = y).symm | (simp at hc3; exact hc3.symm)) hk2⟩
    · omega
  · try simp only [decide_eq_true_eq, decide_eq_false_iff_not, Bool.not_eq_true', Bool.not_eq_false', Bool.and_eq_true, Bool.or_eq_true, Bool.and_eq_false_iff, Bool.or_eq_false_iff, Int.not_lt, Int.not_le, Decidable.not_not] at hc2
    refine X.exit ?_
    refine X.seq ?_
    refine X.region ?_
    refine Ex.pur (P_assign rfl) rfl ?_
    refine Ex.nil ?_
    refine X.ret ?_
    refine RetQ.ret (.one (.tmp rfl (LeV.eq ?_)))
    all_goals (congr 1; exact (decide_eq_true (eq_take (by omega) (by omega) hk2)).symm)
theorem C_tactuslaw09_own (l : List Sg) (hl : l.length ≤ 4000) : Fn Try.prog 31 [sgsA l] (sgsA l) := by
  refine Fn.intro (ts := [(0, sgsA l)]) (rv := [.tmp 2]) (n := 6) (by kernel_rfl) Try.func31 rfl Try.ntmps31 rfl rfl rfl (by simp) (fun g w d => ?_)
  refine X.seq ?_
  refine X.region ?_
  refine Ex.pur (P_assign rfl) rfl ?_
  refine Ex.nil ?_
  refine X.seq ?_
  refine X.region ?_
  refine Ex.stepA (A_buildSlice (k := 3) (enc := sgE) (l := []) sl41 ty64 ze64 (by decide) rfl rfl rfl rfl (by decide) (by decide) (fun _ => rfl) rfl) rfl rfl ?_
  refine Ex.pur (P_move rfl) rfl ?_
  first
    | (refine Ex.stepM (M_append_own rfl rfl rfl rfl sl41 ti64 (by decide) (by decide) (fun _ => rfl) (fun _ => rfl) ?_ rfl) ?_; iterate 1 (· first | assumption | rfl | omega | (simp; done) | (simp; omega) | (simp_all; done)))
    | (refine Ex.stepM (M_append_sl rfl rfl rfl sl41 ti64 (by decide) (by decide) (fun _ => rfl) (fun _ => rfl) ?_ rfl) ?_; iterate 1 (· first | assumption | rfl | omega | (simp; done) | (simp; omega) | (simp_all; done)))
  refine Ex.pur (P_assign rfl) rfl ?_
  refine Ex.nil ?_
  refine X.ret ?_
  refine RetQ.imp (Imp.freeze (k := 3) rfl) ?_
  refine RetQ.ret (.one (.tmp rfl (LeV.eq ?_)))
  all_goals (first | rfl | (simp; rfl))
theorem C_tactuslaw09_same (l : List Sg) (hl : l.length ≤ 4000000000) : Fn Try.prog 42 [sgsA l, sgsA l] (.bool true) := by
  refine Fn.intro (ts := [(0, sgsA l), (1, sgsA l)]) (rv := [.tmp 4]) (n := 26) (by kernel_rfl) Try.func42 rfl Try.ntmps42 rfl rfl rfl (by simp) (fun g w d => ?_)
  refine X.seq ?_
  refine X.region ?_
  refine Ex.pur (P_assign rfl) rfl ?_
  refine Ex.nil ?_
  refine X.seq ?_
  refine X.seq ?_
  refine X.region ?_
  refine Ex.pur (P_move rfl) rfl ?_
  first
    | refine Ex.pur (P_len_sl rfl sl41) rfl ?_
    | refine Ex.pur (P_len_own rfl rfl sl41) rfl ?_
    | refine Ex.pur (P_len_nils rfl sl41) rfl ?_
  refine Ex.pur (P_move rfl) rfl ?_
  first
    | refine Ex.pur (P_len_sl rfl sl41) rfl ?_
    | refine Ex.pur (P_len_own rfl rfl sl41) rfl ?_
    | refine Ex.pur (P_len_nils rfl sl41) rfl ?_
  refine Ex.pur (P_neq rfl rfl) rfl ?_
  refine Ex.nil ?_
  refine X.cond rfl (fun hc1 => ?_) (fun hc1 => ?_)
  · try simp only [decide_eq_true_eq, decide_eq_false_iff_not, Bool.not_eq_true', Bool.not_eq_false', Bool.and_eq_true, Bool.or_eq_true, Bool.and_eq_false_iff, Bool.or_eq_false_iff, Int.not_lt, Int.not_le, Decidable.not_not] at hc1
    simp at hc1
  try simp only [decide_eq_true_eq, decide_eq_false_iff_not, Bool.not_eq_true', Bool.not_eq_false', Bool.and_eq_true, Bool.or_eq_true, Bool.and_eq_false_iff, Bool.or_eq_false_iff, Int.not_lt, Int.not_le, Decidable.not_not] at hc1
  refine X.skip ?_
  refine X.seq ?_
  refine X.seq ?_
  refine X.region ?_
  refine Ex.pur (P_assign rfl) rfl ?_
  refine Ex.nil ?_
  refine X.block ?_
  refine X.loop (ι := Nat) (fun (k : Nat) => ⟨[(0, sgsA l), (1, sgsA l), (5, iv (k : Int))], []⟩) (fun (k : Nat) => k ≤ l.length) (fun (k : Nat) => l.length - k) 0 ?_ ?_ (fun k hk => ?_)
  · exact Imp.of (by (repeat' (first | exact True.intro | (refine And.intro ⟨_, rfl, ?_⟩ ?_; (first | exact LeV.refl _ | exact LeV.any _ | exact LeB.refl _ | (refine LeV.eq ?_; simp; done) | (refine LeV.eq ?_; congr 1; omega) | (refine LeV.eq ?_; dsimp only; congr 1; omega) | (refine LeV.eq (congrArg (AV.int _) ?_); omega) | exact LeV.nils _ | exact LeB.row (by assumption) | (refine LeB.eq ?_; congr 1; omega) | (refine LeB.eq ?_; congr 1; simp only [cond_true, cond_false]; omega)))))) (by (repeat' (first | exact True.intro | (refine And.intro ⟨_, rfl, ?_⟩ ?_; (first | exact LeV.refl _ | exact LeV.any _ | exact LeB.refl _ | (refine LeV.eq ?_; simp; done) | (refine LeV.eq ?_; congr 1; omega) | (refine LeV.eq ?_; dsimp only; congr 1; omega) | (refine LeV.eq (congrArg (AV.int _) ?_); omega) | exact LeV.nils _ | exact LeB.row (by assumption) | (refine LeB.eq ?_; congr 1; omega) | (refine LeB.eq ?_; congr 1; simp only [cond_true, cond_false]; omega))))))
  · first | trivial | omega | (refine ⟨?_, ?_⟩ <;> omega)
  refine X.seq ?_
  refine X.seq ?_
  refine X.region ?_
  refine Ex.pur (P_move rfl) rfl ?_
  refine Ex.pur (P_move rfl) rfl ?_
  first
    | refine Ex.pur (P_len_sl rfl sl41) rfl ?_
    | refine Ex.pur (P_len_own rfl rfl sl41) rfl ?_
    | refine Ex.pur (P_len_nils rfl sl41) rfl ?_
  refine Ex.pur (P_lss rfl rfl) rfl ?_
  refine Ex.nil ?_
  refine X.cond rfl (fun hc2 => ?_) (fun hc2 => ?_)
  · try simp only [decide_eq_true_eq, decide_eq_false_iff_not, Bool.not_eq_true', Bool.not_eq_false', Bool.and_eq_true, Bool.or_eq_true, Bool.and_eq_false_iff, Bool.or_eq_false_iff, Int.not_lt, Int.not_le, Decidable.not_not] at hc2
    obtain ⟨x, hx⟩ : ∃ x, l[k]? = some x := ⟨_, List.getElem?_eq_getElem (by omega)⟩
    have hx2 : l[(k : Int).toNat]? = some x := by simpa using hx
    refine X.skip ?_
    refine X.seq ?_
    refine X.block ?_
    refine X.seq ?_
    refine X.draw [17, 18, 19, 20, 21, 22, 23, 24, 25] mo rfl ?_
    refine Chain.step [] rfl rfl rfl (Pur.stepA (P_move rfl)) rfl ?_
    refine Chain.step [] rfl rfl rfl (Pur.stepA (P_move rfl)) rfl ?_
    first
      | refine Chain.step [1, 0] rfl rfl rfl (Pur.stepA (P_index_sl rfl rfl sl41 ty64 (fun _ => rfl) (by omega) (by assumption))) rfl ?_
      | refine Chain.step [1, 0] rfl rfl rfl (Pur.stepA (P_index_own rfl rfl rfl sl41 ty64 (by omega) (by omega))) rfl ?_
    first
      | refine Chain.step [1, 0, 2] rfl rfl rfl (Pur.stepA (P_load_ept_all rfl rfl rfl ty64)) rfl ?_
      | refine Chain.step [1, 0, 2] rfl rfl rfl (Pur.stepA (P_load_ept_part rfl rfl rfl rfl ty64)) rfl ?_
    refine Chain.step [] rfl rfl rfl (Pur.stepA (P_move rfl)) rfl ?_
    refine Chain.step [] rfl rfl rfl (Pur.stepA (P_move rfl)) rfl ?_
    first
      | refine Chain.step [5, 4] rfl rfl rfl (Pur.stepA (P_index_sl rfl rfl sl41 ty64 (fun _ => rfl) (by omega) (by assumption))) rfl ?_
      | refine Chain.step [5, 4] rfl rfl rfl (Pur.stepA (P_index_own rfl rfl rfl sl41 ty64 (by omega) (by omega))) rfl ?_
    first
      | refine Chain.step [5, 4, 6] rfl rfl rfl (Pur.stepA (P_load_ept_all rfl rfl rfl ty64)) rfl ?_
      | refine Chain.step [5, 4, 6] rfl rfl rfl (Pur.stepA (P_load_ept_part rfl rfl rfl rfl ty64)) rfl ?_
    refine Chain.step [5, 4, 1, 0, 6, 2, 7, 3] rfl rfl rfl (Pur.stepA (P_neq_st' eq64 fl64 eg64 ty64 rfl rfl rfl rfl rfl (eqL_sgE _ _))) rfl ?_
    refine Chain.tail [] rfl rfl ?_
    refine Ex.nil ?_
    refine X.cond rfl (fun hc3 => ?_) (fun hc3 => ?_)
    · try simp only [decide_eq_true_eq, decide_eq_false_iff_not, Bool.not_eq_true', Bool.not_eq_false', Bool.and_eq_true, Bool.or_eq_true, Bool.and_eq_false_iff, Bool.or_eq_false_iff, Int.not_lt, Int.not_le, Decidable.not_not] at hc3
      simp at hc3
    try simp only [decide_eq_true_eq, decide_eq_false_iff_not, Bool.not_eq_true', Bool.not_eq_false', Bool.and_eq_true, Bool.or_eq_true, Bool.and_eq_false_iff, Bool.or_eq_false_iff, Int.not_lt, Int.not_le, Decidable.not_not] at hc3
    refine X.skip ?_
    refine X.region ?_
    refine Ex.pur (P_move rfl) rfl ?_
    refine Ex.pur (P_add rfl rfl (IntWalk.i64_in _ (by omega))) rfl ?_
    refine Ex.pur (P_assign rfl) rfl ?_
    refine Ex.nil ?_
    refine ⟨k + 1, Imp.of (by (repeat' (first | exact True.intro | (refine And.intro ⟨_, rfl, ?_⟩ ?_; (first | exact LeV.refl _ | exact LeV.any _ | exact LeB.refl _ | (refine LeV.eq ?_; simp; done) | (refine LeV.eq ?_; congr 1; omega) | (refine LeV.eq ?_; dsimp only; congr 1; omega) | (refine LeV.eq (congrArg (AV.int _) ?_); omega) | exact LeV.nils _ | exact LeB.row (by assumption) | (refine LeB.eq ?_; congr 1; omega) | (refine LeB.eq ?_; congr 1; simp only [cond_true, cond_false]; omega)))))) (by (repeat' (first | exact True.intro | (refine And.intro ⟨_, rfl, ?_⟩ ?_; (first | exact LeV.refl _ | exact LeV.any _ | exact LeB.refl _ | (refine LeV.eq ?_; simp; done) | (refine LeV.eq ?_; congr 1; omega) | (refine LeV.eq ?_; dsimp only; congr 1; omega) | (refine LeV.eq (congrArg (AV.int _) ?_); omega) | exact LeV.nils _ | exact LeB.row (by assumption) | (refine LeB.eq ?_; congr 1; omega) | (refine LeB.eq ?_; congr 1; simp only [cond_true, cond_false]; omega)))))), ?_, ?_⟩
    · first | trivial | omega | (refine ⟨?_, ?_⟩ <;> omega)
    · omega
  · try simp only [decide_eq_true_eq, decide_eq_false_iff_not, Bool.not_eq_true', Bool.not_eq_false', Bool.and_eq_true, Bool.or_eq_true, Bool.and_eq_false_iff, Bool.or_eq_false_iff, Int.not_lt, Int.not_le, Decidable.not_not] at hc2
    refine X.exit ?_
    refine X.seq ?_
    refine X.region ?_
    refine Ex.pur (P_assign rfl) rfl ?_
    refine Ex.nil ?_
    refine X.ret ?_
    refine RetQ.ret (.one (.tmp rfl (LeV.eq ?_)))
    all_goals (rfl)
theorem C_tactuslaw09_note (v : Int) : Fn Try.prog 49 [iv v] (sgA (sgNote v)) := by
  refine Fn.intro (ts := [(0, iv v)]) (rv := [.cell 2 64]) (n := 5) (by kernel_rfl) Try.func49 rfl Try.ntmps49 rfl rfl rfl (by simp) (fun g w d => ?_)
  refine X.seq ?_
  refine X.region ?_
  refine Ex.stepA (A_alloc (k := 2) zc64) rfl rfl ?_
  refine Ex.nil ?_
  refine X.seq ?_
  refine X.region ?_
  refine Ex.pur (P_move rfl) rfl ?_
  refine Ex.pur (P_build pl64 ia64 zc64 rfl rfl rfl) rfl ?_
  refine Ex.stepM (M_store_agg rfl rfl rfl rfl ty64 rfl (leB rfl)) ?_
  refine Ex.nil ?_
  refine X.ret ?_
  refine RetQ.ret (.one (.cellA rfl rfl rfl rfl ty64 (LeV.eq ?_)))
  all_goals (first | rfl | (simp_all; done))
theorem C_tactuslaw09_point  : Fn Try.prog 53 [] (sgA sgDot) := by
  refine Fn.intro (ts := []) (rv := [.cell 0 64]) (n := 2) (by kernel_rfl) Try.func53 rfl Try.ntmps53 rfl rfl rfl (by simp) (fun g w d => ?_)
  refine X.seq ?_
  refine X.region ?_
  refine Ex.stepA (A_alloc (k := 0) zc64) rfl rfl ?_
  refine Ex.nil ?_
  refine X.seq ?_
  refine X.region ?_
  refine Ex.pur (P_build pl64 ia64 zc64 rfl rfl rfl) rfl ?_
  refine Ex.stepM (M_store_agg rfl rfl rfl rfl ty64 rfl (leB rfl)) ?_
  refine Ex.nil ?_
  refine X.ret ?_
  refine RetQ.ret (.one (.cellA rfl rfl rfl rfl ty64 (LeV.eq ?_)))
  all_goals (first | rfl | (simp_all; done))
theorem C_tactuslaw09_circle  : Fn Try.prog 51 [] (mnA ⟨2, 2, 3, 2⟩) := by
  refine Fn.intro (ts := []) (rv := [.cell 0 23]) (n := 2) (by kernel_rfl) Try.func51 rfl Try.ntmps51 rfl rfl rfl (by simp) (fun g w d => ?_)
  refine X.seq ?_
  refine X.region ?_
  refine Ex.stepA (A_alloc (k := 0) zc23) rfl rfl ?_
  refine Ex.nil ?_
  refine X.seq ?_
  refine X.region ?_
  refine Ex.pur (P_build pl23 ia23 zc23 rfl rfl rfl) rfl ?_
  refine Ex.stepM (M_store_agg rfl rfl rfl rfl ty23 rfl (leB rfl)) ?_
  refine Ex.nil ?_
  refine X.ret ?_
  refine RetQ.ret (.one (.cellA rfl rfl rfl rfl ty23 (LeV.eq ?_)))
  all_goals (first | rfl | (simp_all; done))
theorem C_tactuslaw09_run (l : List Sg) : Fn Try.prog 52 [sgsA l] (sgsA l) := by
  refine Fn.intro (ts := [(0, sgsA l)]) (rv := [.tmp 2]) (n := 4) (by kernel_rfl) Try.func52 rfl Try.ntmps52 rfl rfl rfl (by simp) (fun g w d => ?_)
  refine X.seq ?_
  refine X.region ?_
  refine Ex.pur (P_assign rfl) rfl ?_
  refine Ex.nil ?_
  refine X.seq ?_
  refine X.region ?_
  refine Ex.pur (P_move rfl) rfl ?_
  refine Ex.pur (P_assign rfl) rfl ?_
  refine Ex.nil ?_
  refine X.ret ?_
  refine RetQ.ret (.one (.tmp rfl (LeV.eq ?_)))
  all_goals (first | rfl | (simp_all; done))
theorem ruleD_len (m : Mn) (l : List Sg) : (ruleD m l).length ≤ l.length := by simpa [ruleD] using dotsK_len l l.length
theorem C_same_lists (m : Mn) (l : List Sg) (hl : l.length ≤ 60) : Fn Try.prog 34 [listsA (mnsD m l), listsA (mnsD m l)] (.bool (decide (mnsD m l = mnsD m l))) :=
  C_tactuskit_SameLists _ _ (by have := mnsD_len m l; omega) (fun x hx => by have := mnsD_len2 hx; omega)
theorem C_same_rules (m : Mn) (l : List Sg) (hl : l.length ≤ 60) : Fn Try.prog 37 [intsA (ruleD m l), intsA (ruleD m l)] (.bool (decide (ruleD m l = ruleD m l))) :=
  C_tactuskit_SameInts _ _ (by have := ruleD_len m l; omega)
theorem C_tactuslaw09_means (m : Mn) (l : List Sg) (hl : l.length ≤ 60) (h0 : ckD m l = 0) : Fn Try.prog 50 [mnA m, sgsA l, listsA (mnsD m l), intsA (ruleD m l)] (.bool true) := by
  have hM := C_dot_Meanings m l hl
  have hR := C_dot_Rule m l hl
  rw [h0, if_pos rfl] at hM hR
  refine Fn.intro (ts := [(0, mnA m), (1, sgsA l), (2, listsA (mnsD m l)), (3, intsA (ruleD m l))]) (rv := [.tmp 8]) (n := 41) (by kernel_rfl) Try.func50 rfl Try.ntmps50 rfl rfl rfl (by simp) (fun g w d => ?_)
  refine X.seq ?_
  refine X.region ?_
  refine Ex.stepA (A_box_agg (k := 4) rfl rfl) rfl rfl ?_
  refine Ex.pur (P_assign rfl) rfl ?_
  refine Ex.nil ?_
  refine X.seq ?_
  refine X.region ?_
  first
    | refine Ex.pur (P_load_box_all rfl rfl rfl rfl ty23) rfl ?_
    | refine Ex.pur (P_load_ept_all rfl rfl rfl ty23) rfl ?_
    | refine Ex.pur (P_load_ept_part rfl rfl rfl rfl ty23) rfl ?_
    | refine Ex.pur (P_load_box_part rfl rfl rfl rfl ty23) rfl ?_
  refine Ex.pur (P_move rfl) rfl ?_
  refine Ex.call rfl rfl rfl hM rfl ?_
  refine Ex.pur (P_move rfl) rfl ?_
  refine Ex.pur (P_extract rfl rfl) rfl ?_
  refine Ex.pur (P_extract rfl rfl) rfl ?_
  refine Ex.pur (P_assign rfl) rfl ?_
  refine Ex.pur (P_assign rfl) rfl ?_
  refine Ex.nil ?_
  refine X.seq ?_
  refine X.region ?_
  first
    | refine Ex.pur (P_load_box_all rfl rfl rfl rfl ty23) rfl ?_
    | refine Ex.pur (P_load_ept_all rfl rfl rfl ty23) rfl ?_
    | refine Ex.pur (P_load_ept_part rfl rfl rfl rfl ty23) rfl ?_
    | refine Ex.pur (P_load_box_part rfl rfl rfl rfl ty23) rfl ?_
  refine Ex.pur (P_move rfl) rfl ?_
  refine Ex.call rfl rfl rfl hR rfl ?_
  refine Ex.pur (P_move rfl) rfl ?_
  refine Ex.pur (P_extract rfl rfl) rfl ?_
  refine Ex.pur (P_extract rfl rfl) rfl ?_
  refine Ex.pur (P_assign rfl) rfl ?_
  refine Ex.pur (P_assign rfl) rfl ?_
  refine Ex.nil ?_
  refine X.seq ?_
  refine X.region ?_
  refine Ex.pur (P_move rfl) rfl ?_
  refine Ex.pur (P_eql rfl rfl) rfl ?_
  refine Ex.pur (P_move rfl) rfl ?_
  refine Ex.gstart (t := 27) true rfl ?_
  refine ExG.step rfl rfl rfl (fun hg => Pur.stepA (P_move rfl)) rfl ?_
  refine ExG.step rfl rfl rfl (fun hg => Pur.stepA (P_eql rfl rfl)) rfl ?_
  refine ExG.done ?_
  first
    | refine Ex.pur (P_and rfl rfl) rfl ?_
    | refine Ex.pur (P_or rfl rfl) rfl ?_
    | (refine Ex.pur (P_pick_true rfl ?_ rfl) rfl ?_; iterate 1 (· first | assumption | rfl | omega | (simp; done) | (simp; omega) | (simp_all; done)))
    | (refine Ex.pur (P_pick_false rfl ?_ rfl) rfl ?_; iterate 1 (· first | assumption | rfl | omega | (simp; done) | (simp; omega) | (simp_all; done)))
  refine Ex.pur (P_move rfl) rfl ?_
  refine Ex.gstart (t := 31) true rfl ?_
  refine ExG.step rfl rfl rfl (fun hg => Pur.stepA (P_move rfl)) rfl ?_
  refine ExG.step rfl rfl rfl (fun hg => Pur.stepA (P_move rfl)) rfl ?_
  refine ExG.step rfl rfl rfl (fun hg => A_call rfl rfl rfl (LeL.refl _) (C_same_lists m l hl)) rfl ?_
  refine ExG.done ?_
  first
    | refine Ex.pur (P_and rfl rfl) rfl ?_
    | refine Ex.pur (P_or rfl rfl) rfl ?_
    | (refine Ex.pur (P_pick_true rfl ?_ rfl) rfl ?_; iterate 1 (· first | assumption | rfl | omega | (simp; done) | (simp; omega) | (simp_all; done)))
    | (refine Ex.pur (P_pick_false rfl ?_ rfl) rfl ?_; iterate 1 (· first | assumption | rfl | omega | (simp; done) | (simp; omega) | (simp_all; done)))
  refine Ex.pur (P_move rfl) rfl ?_
  refine Ex.gstart (t := 36) true rfl ?_
  refine ExG.step rfl rfl rfl (fun hg => Pur.stepA (P_move rfl)) rfl ?_
  refine ExG.step rfl rfl rfl (fun hg => Pur.stepA (P_move rfl)) rfl ?_
  refine ExG.step rfl rfl rfl (fun hg => A_call rfl rfl rfl (LeL.refl _) (C_same_rules m l hl)) rfl ?_
  refine ExG.done ?_
  first
    | refine Ex.pur (P_and rfl rfl) rfl ?_
    | refine Ex.pur (P_or rfl rfl) rfl ?_
    | (refine Ex.pur (P_pick_true rfl ?_ rfl) rfl ?_; iterate 1 (· first | assumption | rfl | omega | (simp; done) | (simp; omega) | (simp_all; done)))
    | (refine Ex.pur (P_pick_false rfl ?_ rfl) rfl ?_; iterate 1 (· first | assumption | rfl | omega | (simp; done) | (simp; omega) | (simp_all; done)))
  refine Ex.pur (P_assign rfl) rfl ?_
  refine Ex.nil ?_
  refine X.ret ?_
  refine RetQ.ret (.one (.tmp rfl (LeV.eq ?_)))
  all_goals (simp)
def exA : List Sg := [sgNote 4, sgDot, sgNote 4, sgNote 3, sgDot]
def exB : List Sg := [sgNote 4, sgDot, sgNote 4, sgDot, sgNote 5]
def mCirc : Mn := ⟨2, 2, 3, 2⟩
theorem exA_ck : ckD mCirc exA = 0 := by rw [ckD_R]; decide
theorem exA_mns : mnsD mCirc exA = [[0, 3], [3]] := by rw [mnsD_R exA_ck]; decide
theorem exA_rule : ruleD mCirc exA = [3, 3] := by rw [ruleD_R exA_ck]; decide
theorem exB_ck : ckD mCirc exB = 0 := by rw [ckD_R]; decide
theorem exB_cnt : cntV mCirc exB = 4 ∧ cntE mCirc exB = 0 := by
  unfold cntV cntE; rw [if_pos exB_ck, if_pos exB_ck, mnsD_R exB_ck]; decide
theorem C_tactuslaw09_awake  : Fn Try.prog 30 [] (.bool true) := by
  have hM := C_tactuslaw09_means mCirc exA (by decide) exA_ck
  have hC := C_dot_Count mCirc exB (by decide)
  rw [exA_mns, exA_rule] at hM
  rw [exB_cnt.1, exB_cnt.2] at hC
  refine Fn.intro (ts := []) (rv := [.tmp 0]) (n := 38) (by kernel_rfl) Try.func30 rfl Try.ntmps30 rfl rfl rfl (by simp) (fun g w d => ?_)
  refine X.seq ?_
  refine X.region ?_
  refine Ex.pur (P_assign rfl) rfl ?_
  refine Ex.nil ?_
  refine X.seq ?_
  refine X.region ?_
  refine Ex.call rfl rfl rfl (C_tactuslaw09_note _) rfl ?_
  refine Ex.call rfl rfl rfl C_tactuslaw09_point rfl ?_
  refine Ex.call rfl rfl rfl (C_tactuslaw09_note _) rfl ?_
  refine Ex.call rfl rfl rfl (C_tactuslaw09_note _) rfl ?_
  refine Ex.call rfl rfl rfl C_tactuslaw09_point rfl ?_
  refine Ex.stepA (A_buildSlice (k := 9) (enc := sgE) (l := exA) sl41 ty64 ze64 (by decide) rfl rfl rfl rfl (by decide) (by decide) (fun _ => rfl) rfl) rfl rfl ?_
  refine Ex.imp (Imp.freeze (k := 9) rfl) ?_
  refine Ex.call rfl rfl rfl (C_tactuslaw09_run _) rfl ?_
  refine Ex.pur (P_assign rfl) rfl ?_
  refine Ex.nil ?_
  refine X.seq ?_
  refine X.region ?_
  refine Ex.call rfl rfl rfl C_tactuslaw09_circle rfl ?_
  refine Ex.call rfl rfl rfl (C_tactuslaw09_note _) rfl ?_
  refine Ex.call rfl rfl rfl C_tactuslaw09_point rfl ?_
  refine Ex.call rfl rfl rfl (C_tactuslaw09_note _) rfl ?_
  refine Ex.call rfl rfl rfl C_tactuslaw09_point rfl ?_
  refine Ex.call rfl rfl rfl (C_tactuslaw09_note _) rfl ?_
  refine Ex.stepA (A_buildSlice (k := 18) (enc := sgE) (l := exB) sl41 ty64 ze64 (by decide) rfl rfl rfl rfl (by decide) (by decide) (fun _ => rfl) rfl) rfl rfl ?_
  refine Ex.imp (Imp.freeze (k := 18) rfl) ?_
  refine Ex.call rfl rfl rfl (C_tactuslaw09_run _) rfl ?_
  refine Ex.call rfl rfl rfl hC rfl ?_
  refine Ex.pur (P_move rfl) rfl ?_
  refine Ex.pur (P_extract rfl rfl) rfl ?_
  refine Ex.pur (P_extract rfl rfl) rfl ?_
  refine Ex.pur (P_assign rfl) rfl ?_
  refine Ex.pur (P_assign rfl) rfl ?_
  refine Ex.nil ?_
  refine X.seq ?_
  refine X.region ?_
  refine Ex.call rfl rfl rfl C_tactuslaw09_circle rfl ?_
  refine Ex.pur (P_move rfl) rfl ?_
  refine Ex.stepA (A_buildSlice (k := 25) (enc := intE) (l := [_, _]) sl29 ty3 ze3 (by decide) rfl rfl rfl rfl (by decide) (by decide) (fun _ => rfl) rfl) rfl rfl ?_
  refine Ex.stepA (A_buildSlice (k := 26) (enc := intE) (l := [_]) sl29 ty3 ze3 (by decide) rfl rfl rfl rfl (by decide) (by decide) (fun _ => rfl) rfl) rfl rfl ?_
  refine Ex.imp (Imp.freeze (k := 25) rfl) ?_
  refine Ex.imp (Imp.freeze (k := 26) rfl) ?_
  refine Ex.stepA (A_buildSlice (k := 27) (enc := intsE) (l := [[0, 3], [3]]) sl43 ty29 ze29 (by decide) rfl rfl rfl rfl (by decide) (by decide) (fun _ => rfl) rfl) rfl rfl ?_
  refine Ex.stepA (A_buildSlice (k := 28) (enc := intE) (l := [_, _]) sl29 ty3 ze3 (by decide) rfl rfl rfl rfl (by decide) (by decide) (fun _ => rfl) rfl) rfl rfl ?_
  refine Ex.imp (Imp.freeze (k := 27) rfl) ?_
  refine Ex.imp (Imp.freeze (k := 28) rfl) ?_
  refine Ex.call rfl rfl rfl hM rfl ?_
  refine Ex.pur (P_move rfl) rfl ?_
  refine Ex.gstart (t := 30) true rfl ?_
  refine ExG.step rfl rfl rfl (fun hg => Pur.stepA (P_move rfl)) rfl ?_
  refine ExG.step rfl rfl rfl (fun hg => Pur.stepA (P_eql rfl rfl)) rfl ?_
  refine ExG.done ?_
  first
    | refine Ex.pur (P_and rfl rfl) rfl ?_
    | refine Ex.pur (P_or rfl rfl) rfl ?_
    | (refine Ex.pur (P_pick_true rfl ?_ rfl) rfl ?_; iterate 1 (· first | assumption | rfl | omega | (simp; done) | (simp; omega) | (simp_all; done)))
    | (refine Ex.pur (P_pick_false rfl ?_ rfl) rfl ?_; iterate 1 (· first | assumption | rfl | omega | (simp; done) | (simp; omega) | (simp_all; done)))
  refine Ex.pur (P_move rfl) rfl ?_
  refine Ex.gstart (t := 34) true rfl ?_
  refine ExG.step rfl rfl rfl (fun hg => Pur.stepA (P_move rfl)) rfl ?_
  refine ExG.step rfl rfl rfl (fun hg => Pur.stepA (P_eql rfl rfl)) rfl ?_
  refine ExG.done ?_
  first
    | refine Ex.pur (P_and rfl rfl) rfl ?_
    | refine Ex.pur (P_or rfl rfl) rfl ?_
    | (refine Ex.pur (P_pick_true rfl ?_ rfl) rfl ?_; iterate 1 (· first | assumption | rfl | omega | (simp; done) | (simp; omega) | (simp_all; done)))
    | (refine Ex.pur (P_pick_false rfl ?_ rfl) rfl ?_; iterate 1 (· first | assumption | rfl | omega | (simp; done) | (simp; omega) | (simp_all; done)))
  refine Ex.pur (P_assign rfl) rfl ?_
  refine Ex.nil ?_
  refine X.ret ?_
  refine RetQ.ret (.one (.tmp rfl (LeV.eq ?_)))
  all_goals (simp)
theorem C_tactuslaw09_DotMeanings (m : Mn) (l : List Sg) : Fn Try.prog 4 [mnA m, sgsA l] (.bool true) := by
  refine Fn.intro (ts := [(0, mnA m), (1, sgsA l)]) (rv := [.tmp 4]) (n := 99) (by kernel_rfl) Try.func4 rfl Try.ntmps4 rfl rfl rfl (by simp) (fun g w d => ?_)
  refine X.seq ?_
  refine X.region ?_
  refine Ex.stepA (A_box_agg (k := 2) rfl rfl) rfl rfl ?_
  refine Ex.pur (P_assign rfl) rfl ?_
  refine Ex.nil ?_
  refine X.seq ?_
  refine X.seq ?_
  refine X.region ?_
  refine Ex.pur (P_move rfl) rfl ?_
  first
    | refine Ex.pur (P_len_sl rfl sl41) rfl ?_
    | refine Ex.pur (P_len_own rfl rfl sl41) rfl ?_
    | refine Ex.pur (P_len_nils rfl sl41) rfl ?_
  refine Ex.pur (P_gtr rfl rfl) rfl ?_
  refine Ex.nil ?_
  refine X.cond rfl (fun hc1 => ?_) (fun hc1 => ?_)
  · try simp only [decide_eq_true_eq, decide_eq_false_iff_not, Bool.not_eq_true', Bool.not_eq_false', Bool.and_eq_true, Bool.or_eq_true, Bool.and_eq_false_iff, Bool.or_eq_false_iff, Int.not_lt, Int.not_le, Decidable.not_not] at hc1
    refine X.seq ?_
    refine X.region ?_
    refine Ex.call rfl rfl rfl C_tactuslaw09_awake rfl ?_
    refine Ex.pur (P_assign rfl) rfl ?_
    refine Ex.nil ?_
    refine X.ret ?_
    refine RetQ.ret (.one (.tmp rfl (LeV.eq ?_)))
    all_goals (first | rfl | simp)
  try simp only [decide_eq_true_eq, decide_eq_false_iff_not, Bool.not_eq_true', Bool.not_eq_false', Bool.and_eq_true, Bool.or_eq_true, Bool.and_eq_false_iff, Bool.or_eq_false_iff, Int.not_lt, Int.not_le, Decidable.not_not] at hc1
  have hSL : Fn Try.prog 34 [listsA (if ckD m l = 0 then mnsD m l else []), listsA (if ckD m l = 0 then mnsD m l else [])] (.bool true) := by
    split
    · have := C_same_lists m l (by omega); simpa using this
    · have := C_tactuskit_SameLists [] [] (by simp) (by simp); simpa using this
  have hSI : Fn Try.prog 37 [intsA (if ckD m l = 0 then ruleD m l else []), intsA (if ckD m l = 0 then ruleD m l else [])] (.bool true) := by
    split
    · have := C_same_rules m l (by omega); simpa using this
    · have := C_tactuskit_SameInts [] [] (by simp); simpa using this
  refine X.skip ?_
  refine X.seq ?_
  refine X.region ?_
  refine Ex.pur (P_move rfl) rfl ?_
  refine Ex.call rfl rfl rfl (C_tactuslaw09_own l (by omega)) rfl ?_
  refine Ex.pur (P_assign rfl) rfl ?_
  refine Ex.nil ?_
  refine X.seq ?_
  refine X.region ?_
  first
    | refine Ex.pur (P_load_box_all rfl rfl rfl rfl ty23) rfl ?_
    | refine Ex.pur (P_load_ept_all rfl rfl rfl ty23) rfl ?_
    | refine Ex.pur (P_load_ept_part rfl rfl rfl rfl ty23) rfl ?_
    | refine Ex.pur (P_load_box_part rfl rfl rfl rfl ty23) rfl ?_
  refine Ex.pur (P_move rfl) rfl ?_
  refine Ex.call rfl rfl rfl (C_dot_Meanings m l (by omega)) rfl ?_
  refine Ex.pur (P_move rfl) rfl ?_
  refine Ex.pur (P_extract rfl rfl) rfl ?_
  refine Ex.pur (P_extract rfl rfl) rfl ?_
  refine Ex.pur (P_assign rfl) rfl ?_
  refine Ex.pur (P_assign rfl) rfl ?_
  refine Ex.nil ?_
  refine X.seq ?_
  refine X.region ?_
  first
    | refine Ex.pur (P_load_box_all rfl rfl rfl rfl ty23) rfl ?_
    | refine Ex.pur (P_load_ept_all rfl rfl rfl ty23) rfl ?_
    | refine Ex.pur (P_load_ept_part rfl rfl rfl rfl ty23) rfl ?_
    | refine Ex.pur (P_load_box_part rfl rfl rfl rfl ty23) rfl ?_
  refine Ex.pur (P_move rfl) rfl ?_
  refine Ex.call rfl rfl rfl (C_tactusref09_Meanings' m l (by omega)) rfl ?_
  refine Ex.pur (P_move rfl) rfl ?_
  refine Ex.pur (P_extract rfl rfl) rfl ?_
  refine Ex.pur (P_extract rfl rfl) rfl ?_
  refine Ex.pur (P_assign rfl) rfl ?_
  refine Ex.pur (P_assign rfl) rfl ?_
  refine Ex.nil ?_
  refine X.seq ?_
  refine X.seq ?_
  refine X.region ?_
  refine Ex.pur (P_move rfl) rfl ?_
  refine Ex.pur (P_move rfl) rfl ?_
  refine Ex.call rfl rfl rfl hSL rfl ?_
  refine Ex.pur (P_not rfl) rfl ?_
  refine Ex.pur (P_move rfl) rfl ?_
  refine Ex.gstart (t := 36) false rfl ?_
  refine ExG.step rfl rfl rfl (fun hg => Pur.stepA (P_move rfl)) rfl ?_
  refine ExG.step rfl rfl rfl (fun hg => Pur.stepA (P_move rfl)) rfl ?_
  refine ExG.step rfl rfl rfl (fun hg => Pur.stepA (P_neq rfl rfl)) rfl ?_
  refine ExG.done ?_
  first
    | refine Ex.pur (P_and rfl rfl) rfl ?_
    | refine Ex.pur (P_or rfl rfl) rfl ?_
    | (refine Ex.pur (P_pick_true rfl ?_ rfl) rfl ?_; iterate 1 (· first | assumption | rfl | omega | (simp; done) | (simp; omega) | (simp_all; done)))
    | (refine Ex.pur (P_pick_false rfl ?_ rfl) rfl ?_; iterate 1 (· first | assumption | rfl | omega | (simp; done) | (simp; omega) | (simp_all; done)))
  refine Ex.nil ?_
  refine X.cond rfl (fun hc2 => ?_) (fun hc2 => ?_)
  · try simp only [decide_eq_true_eq, decide_eq_false_iff_not, Bool.not_eq_true', Bool.not_eq_false', Bool.and_eq_true, Bool.or_eq_true, Bool.and_eq_false_iff, Bool.or_eq_false_iff, Int.not_lt, Int.not_le, Decidable.not_not] at hc2
    simp at hc2
  try simp only [decide_eq_true_eq, decide_eq_false_iff_not, Bool.not_eq_true', Bool.not_eq_false', Bool.and_eq_true, Bool.or_eq_true, Bool.and_eq_false_iff, Bool.or_eq_false_iff, Int.not_lt, Int.not_le, Decidable.not_not] at hc2
  refine X.skip ?_
  refine X.seq ?_
  refine X.region ?_
  first
    | refine Ex.pur (P_load_box_all rfl rfl rfl rfl ty23) rfl ?_
    | refine Ex.pur (P_load_ept_all rfl rfl rfl ty23) rfl ?_
    | refine Ex.pur (P_load_ept_part rfl rfl rfl rfl ty23) rfl ?_
    | refine Ex.pur (P_load_box_part rfl rfl rfl rfl ty23) rfl ?_
  refine Ex.pur (P_move rfl) rfl ?_
  refine Ex.call rfl rfl rfl (C_dot_Rule m l (by omega)) rfl ?_
  refine Ex.pur (P_move rfl) rfl ?_
  refine Ex.pur (P_extract rfl rfl) rfl ?_
  refine Ex.pur (P_extract rfl rfl) rfl ?_
  refine Ex.pur (P_assign rfl) rfl ?_
  refine Ex.pur (P_assign rfl) rfl ?_
  refine Ex.nil ?_
  refine X.seq ?_
  refine X.region ?_
  first
    | refine Ex.pur (P_load_box_all rfl rfl rfl rfl ty23) rfl ?_
    | refine Ex.pur (P_load_ept_all rfl rfl rfl ty23) rfl ?_
    | refine Ex.pur (P_load_ept_part rfl rfl rfl rfl ty23) rfl ?_
    | refine Ex.pur (P_load_box_part rfl rfl rfl rfl ty23) rfl ?_
  refine Ex.pur (P_move rfl) rfl ?_
  refine Ex.call rfl rfl rfl (C_tactusref09_Rule' m l (by omega)) rfl ?_
  refine Ex.pur (P_move rfl) rfl ?_
  refine Ex.pur (P_extract rfl rfl) rfl ?_
  refine Ex.pur (P_extract rfl rfl) rfl ?_
  refine Ex.pur (P_assign rfl) rfl ?_
  refine Ex.pur (P_assign rfl) rfl ?_
  refine Ex.nil ?_
  refine X.seq ?_
  refine X.seq ?_
  refine X.region ?_
  refine Ex.pur (P_move rfl) rfl ?_
  refine Ex.pur (P_move rfl) rfl ?_
  refine Ex.call rfl rfl rfl hSI rfl ?_
  refine Ex.pur (P_not rfl) rfl ?_
  refine Ex.pur (P_move rfl) rfl ?_
  refine Ex.gstart (t := 57) false rfl ?_
  refine ExG.step rfl rfl rfl (fun hg => Pur.stepA (P_move rfl)) rfl ?_
  refine ExG.step rfl rfl rfl (fun hg => Pur.stepA (P_move rfl)) rfl ?_
  refine ExG.step rfl rfl rfl (fun hg => Pur.stepA (P_neq rfl rfl)) rfl ?_
  refine ExG.done ?_
  first
    | refine Ex.pur (P_and rfl rfl) rfl ?_
    | refine Ex.pur (P_or rfl rfl) rfl ?_
    | (refine Ex.pur (P_pick_true rfl ?_ rfl) rfl ?_; iterate 1 (· first | assumption | rfl | omega | (simp; done) | (simp; omega) | (simp_all; done)))
    | (refine Ex.pur (P_pick_false rfl ?_ rfl) rfl ?_; iterate 1 (· first | assumption | rfl | omega | (simp; done) | (simp; omega) | (simp_all; done)))
  refine Ex.nil ?_
  refine X.cond rfl (fun hc3 => ?_) (fun hc3 => ?_)
  · try simp only [decide_eq_true_eq, decide_eq_false_iff_not, Bool.not_eq_true', Bool.not_eq_false', Bool.and_eq_true, Bool.or_eq_true, Bool.and_eq_false_iff, Bool.or_eq_false_iff, Int.not_lt, Int.not_le, Decidable.not_not] at hc3
    simp at hc3
  try simp only [decide_eq_true_eq, decide_eq_false_iff_not, Bool.not_eq_true', Bool.not_eq_false', Bool.and_eq_true, Bool.or_eq_true, Bool.and_eq_false_iff, Bool.or_eq_false_iff, Int.not_lt, Int.not_le, Decidable.not_not] at hc3
  refine X.skip ?_
  refine X.seq ?_
  refine X.region ?_
  first
    | refine Ex.pur (P_load_box_all rfl rfl rfl rfl ty23) rfl ?_
    | refine Ex.pur (P_load_ept_all rfl rfl rfl ty23) rfl ?_
    | refine Ex.pur (P_load_ept_part rfl rfl rfl rfl ty23) rfl ?_
    | refine Ex.pur (P_load_box_part rfl rfl rfl rfl ty23) rfl ?_
  refine Ex.pur (P_move rfl) rfl ?_
  refine Ex.call rfl rfl rfl (C_dot_Count m l (by omega)) rfl ?_
  refine Ex.pur (P_move rfl) rfl ?_
  refine Ex.pur (P_extract rfl rfl) rfl ?_
  refine Ex.pur (P_extract rfl rfl) rfl ?_
  refine Ex.pur (P_assign rfl) rfl ?_
  refine Ex.pur (P_assign rfl) rfl ?_
  refine Ex.nil ?_
  refine X.seq ?_
  refine X.region ?_
  first
    | refine Ex.pur (P_load_box_all rfl rfl rfl rfl ty23) rfl ?_
    | refine Ex.pur (P_load_ept_all rfl rfl rfl ty23) rfl ?_
    | refine Ex.pur (P_load_ept_part rfl rfl rfl rfl ty23) rfl ?_
    | refine Ex.pur (P_load_box_part rfl rfl rfl rfl ty23) rfl ?_
  refine Ex.pur (P_move rfl) rfl ?_
  refine Ex.call rfl rfl rfl (C_tactusref09_Count m l (by omega)) rfl ?_
  refine Ex.pur (P_move rfl) rfl ?_
  refine Ex.pur (P_extract rfl rfl) rfl ?_
  refine Ex.pur (P_extract rfl rfl) rfl ?_
  refine Ex.pur (P_assign rfl) rfl ?_
  refine Ex.pur (P_assign rfl) rfl ?_
  refine Ex.nil ?_
  refine X.seq ?_
  have hzz : True := trivial
  · have hg3 : (decide (cntV m l = cntV m l) == true) = true := by simp
    have hg8 : ((decide (cntV m l = cntV m l) && decide (cntE m l = cntE m l)) == true) = true := by simp
    have hg17 : ((decide (cntV m l = cntV m l) && decide (cntE m l = cntE m l) && decide (ckD m l = ckD m l)) == true) = true := by simp
    have hg22 : ((decide (cntV m l = cntV m l) && decide (cntE m l = cntE m l) && decide (ckD m l = ckD m l) && true) == true) = true := by simp
    refine X.draw [4, 74, 75, 76, 77, 78, 79, 80, 81, 82, 83, 84, 85, 86, 87, 88, 89, 90, 91, 92, 93, 94, 95, 96, 97, 98] mo rfl ?_
    refine Chain.step [] rfl rfl rfl (Pur.stepA (P_move rfl)) rfl ?_
    refine Chain.step [] rfl rfl rfl (Pur.stepA (P_move rfl)) rfl ?_
    refine Chain.step [1, 0] rfl rfl rfl (Pur.stepA (P_eql rfl rfl)) rfl ?_
    refine Chain.step [1, 0, 2] rfl rfl rfl (Pur.stepA (P_move rfl)) rfl ?_
    (refine Chain.gT [1, 0, 2, 3] rfl rfl rfl rfl rfl ?_ (Pur.stepA (P_move rfl)) rfl ?_; iterate 1 (· first | assumption | rfl | omega | (simp; done) | (simp; omega) | (simp_all; done)))
    (refine Chain.gT [1, 0, 2, 3] rfl rfl rfl rfl rfl ?_ (Pur.stepA (P_move rfl)) rfl ?_; iterate 1 (· first | assumption | rfl | omega | (simp; done) | (simp; omega) | (simp_all; done)))
    (refine Chain.gT [1, 0, 2, 3, 5, 4] rfl rfl rfl rfl rfl ?_ (Pur.stepA (P_eql rfl rfl)) rfl ?_; iterate 1 (· first | assumption | rfl | omega | (simp; done) | (simp; omega) | (simp_all; done)))
    (refine Chain.step [1, 0, 5, 4, 2, 6, 3] rfl rfl rfl (Pur.stepA (P_pick_true rfl ?_ rfl)) rfl ?_; iterate 1 (· first | assumption | rfl | omega | (simp; done) | (simp; omega) | (simp_all; done)))
    refine Chain.step [1, 0, 5, 4, 2, 6, 3, 7] rfl rfl rfl (Pur.stepA (P_move rfl)) rfl ?_
    first
      | (refine Chain.gT [1, 0, 5, 4, 2, 6, 3, 7, 8] rfl rfl rfl rfl rfl ?_ (Pur.stepA (P_load_box_all rfl rfl rfl rfl ty23)) rfl ?_; iterate 1 (· first | assumption | rfl | omega | (simp; done) | (simp; omega) | (simp_all; done)))
      | (refine Chain.gT [1, 0, 5, 4, 2, 6, 3, 7, 8] rfl rfl rfl rfl rfl ?_ (Pur.stepA (P_load_ept_all rfl rfl rfl ty23)) rfl ?_; iterate 1 (· first | assumption | rfl | omega | (simp; done) | (simp; omega) | (simp_all; done)))
      | (refine Chain.gT [1, 0, 5, 4, 2, 6, 3, 7, 8] rfl rfl rfl rfl rfl ?_ (Pur.stepA (P_load_ept_part rfl rfl rfl rfl ty23)) rfl ?_; iterate 1 (· first | assumption | rfl | omega | (simp; done) | (simp; omega) | (simp_all; done)))
      | (refine Chain.gT [1, 0, 5, 4, 2, 6, 3, 7, 8] rfl rfl rfl rfl rfl ?_ (Pur.stepA (P_load_box_part rfl rfl rfl rfl ty23)) rfl ?_; iterate 1 (· first | assumption | rfl | omega | (simp; done) | (simp; omega) | (simp_all; done)))
    (refine Chain.gT [1, 0, 5, 4, 2, 6, 3, 7, 8] rfl rfl rfl rfl rfl ?_ (Pur.stepA (P_move rfl)) rfl ?_; iterate 1 (· first | assumption | rfl | omega | (simp; done) | (simp; omega) | (simp_all; done)))
    (refine Chain.gT [1, 0, 5, 4, 2, 6, 3, 7, 8, 10, 9] rfl rfl rfl rfl rfl ?_ (A_call rfl rfl rfl (LeL.refl _) (C_dot_Check m l (by omega))) rfl ?_; iterate 1 (· first | assumption | rfl | omega | (simp; done) | (simp; omega) | (simp_all; done)))
    first
      | (refine Chain.gT [1, 0, 5, 4, 2, 6, 3, 7, 8] rfl rfl rfl rfl rfl ?_ (Pur.stepA (P_load_box_all rfl rfl rfl rfl ty23)) rfl ?_; iterate 1 (· first | assumption | rfl | omega | (simp; done) | (simp; omega) | (simp_all; done)))
      | (refine Chain.gT [1, 0, 5, 4, 2, 6, 3, 7, 8] rfl rfl rfl rfl rfl ?_ (Pur.stepA (P_load_ept_all rfl rfl rfl ty23)) rfl ?_; iterate 1 (· first | assumption | rfl | omega | (simp; done) | (simp; omega) | (simp_all; done)))
      | (refine Chain.gT [1, 0, 5, 4, 2, 6, 3, 7, 8] rfl rfl rfl rfl rfl ?_ (Pur.stepA (P_load_ept_part rfl rfl rfl rfl ty23)) rfl ?_; iterate 1 (· first | assumption | rfl | omega | (simp; done) | (simp; omega) | (simp_all; done)))
      | (refine Chain.gT [1, 0, 5, 4, 2, 6, 3, 7, 8] rfl rfl rfl rfl rfl ?_ (Pur.stepA (P_load_box_part rfl rfl rfl rfl ty23)) rfl ?_; iterate 1 (· first | assumption | rfl | omega | (simp; done) | (simp; omega) | (simp_all; done)))
    (refine Chain.gT [1, 0, 5, 4, 2, 6, 3, 7, 8] rfl rfl rfl rfl rfl ?_ (Pur.stepA (P_move rfl)) rfl ?_; iterate 1 (· first | assumption | rfl | omega | (simp; done) | (simp; omega) | (simp_all; done)))
    (refine Chain.gT [1, 0, 5, 4, 2, 6, 3, 7, 10, 9, 8, 11, 13, 12] rfl rfl rfl rfl rfl ?_ (A_call rfl rfl rfl (LeL.refl _) (C_tactusref09_Check' m l (by omega))) rfl ?_; iterate 1 (· first | assumption | rfl | omega | (simp; done) | (simp; omega) | (simp_all; done)))
    (refine Chain.gT [1, 0, 5, 4, 2, 6, 3, 7, 13, 12, 10, 9, 8, 14, 11] rfl rfl rfl rfl rfl ?_ (Pur.stepA (P_eql rfl rfl)) rfl ?_; iterate 1 (· first | assumption | rfl | omega | (simp; done) | (simp; omega) | (simp_all; done)))
    (refine Chain.step [1, 0, 5, 4, 13, 12, 10, 9, 2, 6, 14, 11, 3, 7, 15, 8] rfl rfl rfl (Pur.stepA (P_pick_true rfl ?_ rfl)) rfl ?_; iterate 1 (· first | assumption | rfl | omega | (simp; done) | (simp; omega) | (simp_all; done)))
    refine Chain.step [1, 0, 5, 4, 2, 6, 10, 9, 3, 7, 11, 13, 12, 15, 8, 14, 16] rfl rfl rfl (Pur.stepA (P_move rfl)) rfl ?_
    (refine Chain.gT [1, 0, 5, 4, 2, 6, 10, 9, 3, 7, 11, 13, 12, 15, 8, 14, 16, 17] rfl rfl rfl rfl rfl ?_ (Pur.stepA (P_move rfl)) rfl ?_; iterate 1 (· first | assumption | rfl | omega | (simp; done) | (simp; omega) | (simp_all; done)))
    (refine Chain.gT [1, 0, 5, 4, 2, 6, 10, 9, 3, 7, 11, 13, 12, 15, 8, 14, 16, 17] rfl rfl rfl rfl rfl ?_ (Pur.stepA (P_move rfl)) rfl ?_; iterate 1 (· first | assumption | rfl | omega | (simp; done) | (simp; omega) | (simp_all; done)))
    (refine Chain.gT [1, 0, 5, 4, 2, 6, 10, 9, 3, 7, 11, 13, 12, 15, 8, 14, 16, 17, 19, 18] rfl rfl rfl rfl rfl ?_ (A_call rfl rfl rfl (LeL.refl _) (C_tactuslaw09_same l (by omega))) rfl ?_; iterate 1 (· first | assumption | rfl | omega | (simp; done) | (simp; omega) | (simp_all; done)))
    (refine Chain.step [1, 0, 5, 4, 2, 6, 10, 9, 3, 7, 11, 13, 12, 15, 8, 19, 18, 14, 16, 20, 17] rfl rfl rfl (Pur.stepA (P_pick_true rfl ?_ rfl)) rfl ?_; iterate 1 (· first | assumption | rfl | omega | (simp; done) | (simp; omega) | (simp_all; done)))
    refine Chain.step [1, 0, 5, 4, 2, 6, 10, 9, 3, 7, 11, 13, 12, 15, 8, 14, 16, 19, 18, 17, 20, 21] rfl rfl rfl (Pur.stepA (P_move rfl)) rfl ?_
    (refine Chain.gT [1, 0, 5, 4, 2, 6, 10, 9, 3, 7, 11, 13, 12, 15, 8, 14, 16, 19, 18, 17, 20, 21, 22] rfl rfl rfl rfl rfl ?_ (A_call rfl rfl rfl (LeL.refl _) C_tactuslaw09_awake) rfl ?_; iterate 1 (· first | assumption | rfl | omega | (simp; done) | (simp; omega) | (simp_all; done)))
    (refine Chain.step [1, 0, 5, 4, 2, 6, 10, 9, 3, 7, 11, 13, 12, 15, 8, 14, 16, 19, 18, 17, 20, 21, 23, 22] rfl rfl rfl (Pur.stepA (P_pick_true rfl ?_ rfl)) rfl ?_; iterate 1 (· first | assumption | rfl | omega | (simp; done) | (simp; omega) | (simp_all; done)))
    refine Chain.step [22, 21, 20, 19, 18, 17, 16, 15, 14, 13, 12, 11, 10, 9, 8, 7, 6, 5, 4, 3, 2, 1, 0, 23, 24] rfl rfl rfl (Pur.stepA (P_assign rfl)) rfl ?_
    refine Chain.tail [] rfl rfl ?_
    refine Ex.nil ?_
    refine X.ret ?_
    refine RetQ.ret (.one (.tmp rfl (LeV.eq ?_)))
    all_goals (first | rfl | simp)
end Go.Rse
