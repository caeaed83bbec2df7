/-
  Walks: the first fault of a run.
-/
import Derived.Test.YteecbmgddacioaaDot2
namespace Go.Rse
open Go Go.Proofs
set_option linter.unusedVariables false
set_option linter.unusedSimpArgs false
attribute [local irreducible] Pur StepA StepM Ex X ExG Fn Imp LeV LeB FnO It YStep
/-- The fault of the sign k of a run under a valid mensuration. -/
def sgF (m : Mn) (l : List Sg) (k : Nat) (s : Sg) : Int :=
  if s.Kind = 1 ∨ s.Kind = 2 then (if 1 ≤ s.Value ∧ s.Value ≤ 8 then 0 else 2)
  else if s.Kind = 3 then (match k with | 0 => 13 | j + 1 => match l[j]? with | some p => if p.Kind = 3 ∨ (mngs m p).length = 0 then 13 else 0 | none => 13)
  else 8
/-- The first fault from k on. -/
def ckFrom (m : Mn) (l : List Sg) : Nat → List Sg → Int
  | _, [] => 0
  | k, s :: r => if sgF m l k s = 0 then ckFrom m l (k + 1) r else sgF m l k s
def ckD (m : Mn) (l : List Sg) : Int := if ckM m = 0 then ckFrom m l 0 l else ckM m
theorem ckFrom_ok {m : Mn} {l : List Sg} {k : Nat} {s : Sg} (h : l[k]? = some s) (h0 : sgF m l k s = 0) : ckFrom m l k (l.drop k) = ckFrom m l (k + 1) (l.drop (k + 1)) := by
  have hk : k < l.length := (List.getElem?_eq_some_iff.1 h).1
  rw [List.drop_eq_getElem_cons hk]
  have : l[k] = s := (List.getElem?_eq_some_iff.1 h).2
  rw [this]; simp only [ckFrom, h0, if_true]
theorem ckFrom_bad {m : Mn} {l : List Sg} {k : Nat} {s : Sg} (h : l[k]? = some s) (h0 : sgF m l k s ≠ 0) : ckFrom m l k (l.drop k) = sgF m l k s := by
  have hk : k < l.length := (List.getElem?_eq_some_iff.1 h).1
  rw [List.drop_eq_getElem_cons hk]
  have : l[k] = s := (List.getElem?_eq_some_iff.1 h).2
  rw [this]; simp only [ckFrom, if_neg h0]
theorem C_dot_Check (m : Mn) (l : List Sg) (hl : l.length ≤ 60) : Fn Try.prog 40 [mnA m, sgsA l] (iv (ckD m l)) := by
  refine Fn.intro (ts := [(0, mnA m), (1, sgsA l)]) (rv := [.tmp 4]) (n := 58) (by kernel_rfl) Try.func40 rfl Try.ntmps40 rfl rfl rfl (by simp) (fun g w d => ?_)
  refine X.seq ?_
  refine X.region ?_
  refine Ex.stepA (A_box_agg (k := 2) rfl rfl) rfl rfl ?_
  refine Ex.pur (P_assign rfl) rfl ?_
  refine Ex.nil ?_
  refine X.seq ?_
  refine X.seq ?_
  refine X.region ?_
  first
    | refine Ex.pur (P_load_box_all rfl rfl rfl rfl ty23) rfl ?_
    | refine Ex.pur (P_load_ept_all rfl rfl rfl ty23) rfl ?_
    | refine Ex.pur (P_load_ept_part rfl rfl rfl rfl ty23) rfl ?_
    | refine Ex.pur (P_load_box_part rfl rfl rfl rfl ty23) rfl ?_
  refine Ex.call rfl rfl rfl (C_mens_Check m) rfl ?_
  refine Ex.pur (P_assign rfl) rfl ?_
  refine Ex.nil ?_
  refine X.seq ?_
  refine X.region ?_
  refine Ex.pur (P_move rfl) rfl ?_
  refine Ex.pur (P_neq rfl rfl) rfl ?_
  refine Ex.nil ?_
  refine X.cond rfl (fun hc1 => ?_) (fun hc1 => ?_)
  · try simp only [decide_eq_true_eq, decide_eq_false_iff_not, Bool.not_eq_true', Bool.not_eq_false', Bool.and_eq_true, Bool.or_eq_true, Bool.and_eq_false_iff, Bool.or_eq_false_iff, Int.not_lt, Int.not_le, Decidable.not_not] at hc1
    refine X.seq ?_
    refine X.region ?_
    refine Ex.pur (P_move rfl) rfl ?_
    refine Ex.pur (P_assign rfl) rfl ?_
    refine Ex.nil ?_
    refine X.ret ?_
    refine RetQ.ret (.one (.tmp rfl (LeV.eq ?_)))
    all_goals (first | rfl | (unfold ckD; rw [if_neg hc1]))
  try simp only [decide_eq_true_eq, decide_eq_false_iff_not, Bool.not_eq_true', Bool.not_eq_false', Bool.and_eq_true, Bool.or_eq_true, Bool.and_eq_false_iff, Bool.or_eq_false_iff, Int.not_lt, Int.not_le, Decidable.not_not] at hc1
  refine X.skip ?_
  refine X.seq ?_
  refine X.seq ?_
  refine X.region ?_
  refine Ex.pur (P_move rfl) rfl ?_
  first
    | refine Ex.pur (P_len_sl rfl sl41) rfl ?_
    | refine Ex.pur (P_len_own rfl rfl sl41) rfl ?_
    | refine Ex.pur (P_len_nils rfl sl41) rfl ?_
  refine Ex.pur (P_move rfl) rfl ?_
  refine Ex.nil ?_
  refine X.block ?_
  refine X.loop (ι := Nat) (fun (k : Nat) => ⟨[(1, sgsA l), (2, .ptr 2 0 0 0), (13, sgsA l), (14, iv l.length), (15, iv (k : Int))], [(2, .box (mnE m) 23)]⟩) (fun (k : Nat) => k ≤ l.length ∧ ckD m l = ckFrom m l k (l.drop k)) (fun (k : Nat) => l.length - k) 0 ?_ ?_ (fun k hk => ?_)
  · exact Imp.of (by (repeat' (first | exact True.intro | (refine And.intro ⟨_, rfl, ?_⟩ ?_; (first | exact LeV.refl _ | exact LeV.any _ | exact LeB.refl _ | (refine LeV.eq ?_; simp; done) | (refine LeV.eq ?_; congr 1; omega) | (refine LeV.eq ?_; dsimp only; congr 1; omega) | (refine LeV.eq (congrArg (AV.int _) ?_); omega) | exact LeV.nils _ | exact LeB.row (by assumption) | (refine LeB.eq ?_; congr 1; omega) | (refine LeB.eq ?_; congr 1; simp only [cond_true, cond_false]; omega)))))) (by (repeat' (first | exact True.intro | (refine And.intro ⟨_, rfl, ?_⟩ ?_; (first | exact LeV.refl _ | exact LeV.any _ | exact LeB.refl _ | (refine LeV.eq ?_; simp; done) | (refine LeV.eq ?_; congr 1; omega) | (refine LeV.eq ?_; dsimp only; congr 1; omega) | (refine LeV.eq (congrArg (AV.int _) ?_); omega) | exact LeV.nils _ | exact LeB.row (by assumption) | (refine LeB.eq ?_; congr 1; omega) | (refine LeB.eq ?_; congr 1; simp only [cond_true, cond_false]; omega))))))
  · exact ⟨by omega, by unfold ckD; rw [if_pos hc1]; rfl⟩
  obtain ⟨hk1, hk2⟩ := hk
  refine X.seq ?_
  refine X.region ?_
  refine Ex.pur (P_lss rfl rfl) rfl ?_
  refine Ex.nil ?_
  refine X.seq ?_
  refine X.cond rfl (fun hc2 => ?_) (fun hc2 => ?_)
  · try simp only [decide_eq_true_eq, decide_eq_false_iff_not, Bool.not_eq_true', Bool.not_eq_false', Bool.and_eq_true, Bool.or_eq_true, Bool.and_eq_false_iff, Bool.or_eq_false_iff, Int.not_lt, Int.not_le, Decidable.not_not] at hc2
    obtain ⟨s, hs⟩ : ∃ s, l[k]? = some s := ⟨_, List.getElem?_eq_getElem (by omega)⟩
    have hs2 : l[(k : Int).toNat]? = some s := by simpa using hs
    refine X.skip ?_
    refine X.seq ?_
    refine X.block ?_
    refine X.seq ?_
    refine X.region ?_
    refine Ex.pur (P_move rfl) rfl ?_
    first
      | refine Ex.pur (P_index_sl rfl rfl sl41 ty64 (fun _ => rfl) (by omega) (by assumption)) rfl ?_
      | refine Ex.pur (P_index_own rfl rfl rfl sl41 ty64 (by omega) (by omega)) rfl ?_
    first
      | refine Ex.pur (P_load_ept_all rfl rfl rfl ty64) rfl ?_
      | refine Ex.pur (P_load_ept_part rfl rfl rfl rfl ty64) rfl ?_
    refine Ex.stepA (A_alloc (k := 7) zc64) rfl rfl ?_
    refine Ex.pur (P_assign rfl) rfl ?_
    refine Ex.stepM (M_store_agg rfl rfl rfl rfl ty64 rfl (leB rfl)) ?_
    refine Ex.nil ?_
    refine X.seq ?_
    refine X.region ?_
    first
      | refine Ex.pur (P_fieldAddr_ptr rfl fo64_0) rfl ?_
      | refine Ex.pur (P_fieldAddr_ept rfl fo64_0) rfl ?_
    first
      | refine Ex.pur (P_load_box rfl rfl rfl ty3) rfl ?_
      | refine Ex.pur (P_load_ept rfl rfl rfl ty3) rfl ?_
      | refine Ex.pur (P_load_row rfl rfl (by assumption) rfl rfl ty3) rfl ?_
    refine Ex.nil ?_
    refine X.block ?_
    refine X.seq ?_
    refine X.seq ?_
    refine X.region ?_
    refine Ex.pur (P_eql rfl rfl) rfl ?_
    refine Ex.pur (P_assign rfl) rfl ?_
    refine Ex.nil ?_
    refine X.cond rfl (fun hc3 => ?_) (fun hc3 => ?_)
    · try simp only [decide_eq_true_eq, decide_eq_false_iff_not, Bool.not_eq_true', Bool.not_eq_false', Bool.and_eq_true, Bool.or_eq_true, Bool.and_eq_false_iff, Bool.or_eq_false_iff, Int.not_lt, Int.not_le, Decidable.not_not] at hc3
      refine X.skip ?_
      refine X.cond rfl (fun hc4 => ?_) (fun hc4 => ?_)
      · try simp only [decide_eq_true_eq, decide_eq_false_iff_not, Bool.not_eq_true', Bool.not_eq_false', Bool.and_eq_true, Bool.or_eq_true, Bool.and_eq_false_iff, Bool.or_eq_false_iff, Int.not_lt, Int.not_le, Decidable.not_not] at hc4
        refine X.seq ?_
        refine X.region ?_
        first
          | refine Ex.pur (P_fieldAddr_ptr rfl fo64_1) rfl ?_
          | refine Ex.pur (P_fieldAddr_ept rfl fo64_1) rfl ?_
        first
          | refine Ex.pur (P_load_box rfl rfl rfl ty3) rfl ?_
          | refine Ex.pur (P_load_ept rfl rfl rfl ty3) rfl ?_
          | refine Ex.pur (P_load_row rfl rfl (by assumption) rfl rfl ty3) rfl ?_
        refine Ex.pur (P_lss rfl rfl) rfl ?_
        refine Ex.pur (P_move rfl) rfl ?_
        refine Ex.gstart (t := 28) false rfl ?_
        first
          | refine ExG.step rfl rfl rfl (fun hg => Pur.stepA (P_fieldAddr_ptr rfl fo64_1)) rfl ?_
          | refine ExG.step rfl rfl rfl (fun hg => Pur.stepA (P_fieldAddr_ept rfl fo64_1)) rfl ?_
        first
          | refine ExG.step rfl rfl rfl (fun hg => Pur.stepA (P_load_box rfl rfl rfl ty3)) rfl ?_
          | refine ExG.step rfl rfl rfl (fun hg => Pur.stepA (P_load_ept rfl rfl rfl ty3)) rfl ?_
          | refine ExG.step rfl rfl rfl (fun hg => Pur.stepA (P_load_row rfl rfl (by assumption) rfl rfl ty3)) rfl ?_
        refine ExG.step rfl rfl rfl (fun hg => Pur.stepA (P_gtr rfl rfl)) rfl ?_
        refine ExG.done ?_
        first
          | refine Ex.pur (P_and rfl rfl) rfl ?_
          | refine Ex.pur (P_or rfl rfl) rfl ?_
          | (refine Ex.pur (P_pick_true rfl ?_ rfl) rfl ?_; iterate 1 (· first | assumption | rfl | omega | (simp; done) | (simp; omega) | (simp_all; done)))
          | (refine Ex.pur (P_pick_false rfl ?_ rfl) rfl ?_; iterate 1 (· first | assumption | rfl | omega | (simp; done) | (simp; omega) | (simp_all; done)))
        refine Ex.nil ?_
        refine X.cond rfl (fun hc5 => ?_) (fun hc5 => ?_)
        · try simp only [decide_eq_true_eq, decide_eq_false_iff_not, Bool.not_eq_true', Bool.not_eq_false', Bool.and_eq_true, Bool.or_eq_true, Bool.and_eq_false_iff, Bool.or_eq_false_iff, Int.not_lt, Int.not_le, Decidable.not_not] at hc5
          have hF : sgF m l k s = 2 := by unfold sgF; rw [if_pos (.inl hc3), if_neg (by omega)]
          refine X.seq ?_
          refine X.region ?_
          refine Ex.pur (P_assign rfl) rfl ?_
          refine Ex.nil ?_
          refine X.ret ?_
          refine RetQ.ret (.one (.tmp rfl (LeV.eq ?_)))
          all_goals (rw [hk2, ckFrom_bad hs (by rw [hF]; decide), hF])
        try simp only [decide_eq_true_eq, decide_eq_false_iff_not, Bool.not_eq_true', Bool.not_eq_false', Bool.and_eq_true, Bool.or_eq_true, Bool.and_eq_false_iff, Bool.or_eq_false_iff, Int.not_lt, Int.not_le, Decidable.not_not] at hc5
        have h0 : sgF m l k s = 0 := by unfold sgF; rw [if_pos (.inl hc3), if_pos (by omega)]
        refine X.skip ?_
        refine X.region ?_
        refine Ex.pur (P_add rfl rfl (IntWalk.i64_in _ (by omega))) rfl ?_
        refine Ex.pur (P_move rfl) rfl ?_
        refine Ex.nil ?_
        refine ⟨k + 1, Imp.of (by (repeat' (first | exact True.intro | (refine And.intro ⟨_, rfl, ?_⟩ ?_; (first | exact LeV.refl _ | exact LeV.any _ | exact LeB.refl _ | (refine LeV.eq ?_; simp; done) | (refine LeV.eq ?_; congr 1; omega) | (refine LeV.eq ?_; dsimp only; congr 1; omega) | (refine LeV.eq (congrArg (AV.int _) ?_); omega) | exact LeV.nils _ | exact LeB.row (by assumption) | (refine LeB.eq ?_; congr 1; omega) | (refine LeB.eq ?_; congr 1; simp only [cond_true, cond_false]; omega)))))) (by (repeat' (first | exact True.intro | (refine And.intro ⟨_, rfl, ?_⟩ ?_; (first | exact LeV.refl _ | exact LeV.any _ | exact LeB.refl _ | (refine LeV.eq ?_; simp; done) | (refine LeV.eq ?_; congr 1; omega) | (refine LeV.eq ?_; dsimp only; congr 1; omega) | (refine LeV.eq (congrArg (AV.int _) ?_); omega) | exact LeV.nils _ | exact LeB.row (by assumption) | (refine LeB.eq ?_; congr 1; omega) | (refine LeB.eq ?_; congr 1; simp only [cond_true, cond_false]; omega)))))), ?_, ?_⟩
        · exact ⟨by omega, by rw [hk2, ckFrom_ok hs h0]⟩
        · omega
      · try simp only [decide_eq_true_eq, decide_eq_false_iff_not, Bool.not_eq_true', Bool.not_eq_false', Bool.and_eq_true, Bool.or_eq_true, Bool.and_eq_false_iff, Bool.or_eq_false_iff, Int.not_lt, Int.not_le, Decidable.not_not] at hc4
        exact absurd hc3 hc4
    · try simp only [decide_eq_true_eq, decide_eq_false_iff_not, Bool.not_eq_true', Bool.not_eq_false', Bool.and_eq_true, Bool.or_eq_true, Bool.and_eq_false_iff, Bool.or_eq_false_iff, Int.not_lt, Int.not_le, Decidable.not_not] at hc3
      refine X.region ?_
      refine Ex.pur (P_eql rfl rfl) rfl ?_
      refine Ex.pur (P_assign rfl) rfl ?_
      refine Ex.nil ?_
      refine X.cond rfl (fun hc6 => ?_) (fun hc6 => ?_)
      · try simp only [decide_eq_true_eq, decide_eq_false_iff_not, Bool.not_eq_true', Bool.not_eq_false', Bool.and_eq_true, Bool.or_eq_true, Bool.and_eq_false_iff, Bool.or_eq_false_iff, Int.not_lt, Int.not_le, Decidable.not_not] at hc6
        refine X.seq ?_
        refine X.region ?_
        first
          | refine Ex.pur (P_fieldAddr_ptr rfl fo64_1) rfl ?_
          | refine Ex.pur (P_fieldAddr_ept rfl fo64_1) rfl ?_
        first
          | refine Ex.pur (P_load_box rfl rfl rfl ty3) rfl ?_
          | refine Ex.pur (P_load_ept rfl rfl rfl ty3) rfl ?_
          | refine Ex.pur (P_load_row rfl rfl (by assumption) rfl rfl ty3) rfl ?_
        refine Ex.pur (P_lss rfl rfl) rfl ?_
        refine Ex.pur (P_move rfl) rfl ?_
        refine Ex.gstart (t := 28) false rfl ?_
        first
          | refine ExG.step rfl rfl rfl (fun hg => Pur.stepA (P_fieldAddr_ptr rfl fo64_1)) rfl ?_
          | refine ExG.step rfl rfl rfl (fun hg => Pur.stepA (P_fieldAddr_ept rfl fo64_1)) rfl ?_
        first
          | refine ExG.step rfl rfl rfl (fun hg => Pur.stepA (P_load_box rfl rfl rfl ty3)) rfl ?_
          | refine ExG.step rfl rfl rfl (fun hg => Pur.stepA (P_load_ept rfl rfl rfl ty3)) rfl ?_
          | refine ExG.step rfl rfl rfl (fun hg => Pur.stepA (P_load_row rfl rfl (by assumption) rfl rfl ty3)) rfl ?_
        refine ExG.step rfl rfl rfl (fun hg => Pur.stepA (P_gtr rfl rfl)) rfl ?_
        refine ExG.done ?_
        first
          | refine Ex.pur (P_and rfl rfl) rfl ?_
          | refine Ex.pur (P_or rfl rfl) rfl ?_
          | (refine Ex.pur (P_pick_true rfl ?_ rfl) rfl ?_; iterate 1 (· first | assumption | rfl | omega | (simp; done) | (simp; omega) | (simp_all; done)))
          | (refine Ex.pur (P_pick_false rfl ?_ rfl) rfl ?_; iterate 1 (· first | assumption | rfl | omega | (simp; done) | (simp; omega) | (simp_all; done)))
        refine Ex.nil ?_
        refine X.cond rfl (fun hc7 => ?_) (fun hc7 => ?_)
        · try simp only [decide_eq_true_eq, decide_eq_false_iff_not, Bool.not_eq_true', Bool.not_eq_false', Bool.and_eq_true, Bool.or_eq_true, Bool.and_eq_false_iff, Bool.or_eq_false_iff, Int.not_lt, Int.not_le, Decidable.not_not] at hc7
          have hF : sgF m l k s = 2 := by unfold sgF; rw [if_pos (.inr hc6), if_neg (by omega)]
          refine X.seq ?_
          refine X.region ?_
          refine Ex.pur (P_assign rfl) rfl ?_
          refine Ex.nil ?_
          refine X.ret ?_
          refine RetQ.ret (.one (.tmp rfl (LeV.eq ?_)))
          all_goals (rw [hk2, ckFrom_bad hs (by rw [hF]; decide), hF])
        try simp only [decide_eq_true_eq, decide_eq_false_iff_not, Bool.not_eq_true', Bool.not_eq_false', Bool.and_eq_true, Bool.or_eq_true, Bool.and_eq_false_iff, Bool.or_eq_false_iff, Int.not_lt, Int.not_le, Decidable.not_not] at hc7
        have h0 : sgF m l k s = 0 := by unfold sgF; rw [if_pos (.inr hc6), if_pos (by omega)]
        refine X.skip ?_
        refine X.region ?_
        refine Ex.pur (P_add rfl rfl (IntWalk.i64_in _ (by omega))) rfl ?_
        refine Ex.pur (P_move rfl) rfl ?_
        refine Ex.nil ?_
        refine ⟨k + 1, Imp.of (by (repeat' (first | exact True.intro | (refine And.intro ⟨_, rfl, ?_⟩ ?_; (first | exact LeV.refl _ | exact LeV.any _ | exact LeB.refl _ | (refine LeV.eq ?_; simp; done) | (refine LeV.eq ?_; congr 1; omega) | (refine LeV.eq ?_; dsimp only; congr 1; omega) | (refine LeV.eq (congrArg (AV.int _) ?_); omega) | exact LeV.nils _ | exact LeB.row (by assumption) | (refine LeB.eq ?_; congr 1; omega) | (refine LeB.eq ?_; congr 1; simp only [cond_true, cond_false]; omega)))))) (by (repeat' (first | exact True.intro | (refine And.intro ⟨_, rfl, ?_⟩ ?_; (first | exact LeV.refl _ | exact LeV.any _ | exact LeB.refl _ | (refine LeV.eq ?_; simp; done) | (refine LeV.eq ?_; congr 1; omega) | (refine LeV.eq ?_; dsimp only; congr 1; omega) | (refine LeV.eq (congrArg (AV.int _) ?_); omega) | exact LeV.nils _ | exact LeB.row (by assumption) | (refine LeB.eq ?_; congr 1; omega) | (refine LeB.eq ?_; congr 1; simp only [cond_true, cond_false]; omega)))))), ?_, ?_⟩
        · exact ⟨by omega, by rw [hk2, ckFrom_ok hs h0]⟩
        · omega
      · try simp only [decide_eq_true_eq, decide_eq_false_iff_not, Bool.not_eq_true', Bool.not_eq_false', Bool.and_eq_true, Bool.or_eq_true, Bool.and_eq_false_iff, Bool.or_eq_false_iff, Int.not_lt, Int.not_le, Decidable.not_not] at hc6
        refine X.seq ?_
        refine X.region ?_
        refine Ex.pur (P_eql rfl rfl) rfl ?_
        refine Ex.pur (P_assign rfl) rfl ?_
        refine Ex.nil ?_
        refine X.cond rfl (fun hc8 => ?_) (fun hc8 => ?_)
        · try simp only [decide_eq_true_eq, decide_eq_false_iff_not, Bool.not_eq_true', Bool.not_eq_false', Bool.and_eq_true, Bool.or_eq_true, Bool.and_eq_false_iff, Bool.or_eq_false_iff, Int.not_lt, Int.not_le, Decidable.not_not] at hc8
          have hcs : k = 0 ∨ (∃ sp : Sg, 0 < k ∧ l[k - 1]? = some sp ∧ sp.Kind = 3) ∨ (∃ sp : Sg, 0 < k ∧ l[k - 1]? = some sp ∧ ¬ sp.Kind = 3) := by
            rcases Nat.eq_zero_or_pos k with h | h
            · exact .inl h
            · by_cases hd : (l[k - 1]'(by omega)).Kind = 3
              · exact .inr (.inl ⟨_, h, List.getElem?_eq_getElem (by omega), hd⟩)
              · exact .inr (.inr ⟨_, h, List.getElem?_eq_getElem (by omega), hd⟩)
          refine X.seq ?_
          rcases hcs with hk0 | ⟨sp, hk0, hsp, hkd⟩ | ⟨sp, hk0, hsp, hkd⟩
          · have hg2 : (decide ((k : Int) = 0) == false) = false := by simp; omega
            have hg3 : decide ((k : Int) = 0) = true := by simp; omega
            have hg4 : (true == false) = false := rfl
            have hF : sgF m l k s = 13 := by subst hk0; unfold sgF; rw [if_neg (by omega), if_pos hc8]
            refine X.draw [35, 36, 37, 38, 39, 40, 41, 42, 43, 44, 45, 46, 47, 48, 49, 50, 51, 52, 53, 54, 55, 56] mo rfl ?_
            refine Chain.step [] rfl rfl rfl (Pur.stepA (P_move rfl)) rfl ?_
            refine Chain.step [0] rfl rfl rfl (Pur.stepA (P_eql rfl rfl)) rfl ?_
            refine Chain.step [0, 1] rfl rfl rfl (Pur.stepA (P_move rfl)) rfl ?_
            (refine Chain.gF [0, 1, 2] rfl rfl rfl rfl rfl ?_ rfl ?_; iterate 1 (· first | assumption | rfl | omega | (simp; done) | (simp; omega) | (simp_all; done)))
            (refine Chain.gF [0, 1, 2] rfl rfl rfl rfl rfl ?_ rfl ?_; iterate 1 (· first | assumption | rfl | omega | (simp; done) | (simp; omega) | (simp_all; done)))
            (refine Chain.gF [0, 1, 2, 4] rfl rfl rfl rfl rfl ?_ rfl ?_; iterate 1 (· first | assumption | rfl | omega | (simp; done) | (simp; omega) | (simp_all; done)))
            (refine Chain.gF [0, 1, 4, 2, 5, 3] rfl rfl rfl rfl rfl ?_ rfl ?_; iterate 1 (· first | assumption | rfl | omega | (simp; done) | (simp; omega) | (simp_all; done)))
            (refine Chain.gF [0, 4, 1, 5, 3, 2, 6] rfl rfl rfl rfl rfl ?_ rfl ?_; iterate 1 (· first | assumption | rfl | omega | (simp; done) | (simp; omega) | (simp_all; done)))
            (refine Chain.gF [4, 0, 5, 3, 1, 6, 2, 7] rfl rfl rfl rfl rfl ?_ rfl ?_; iterate 1 (· first | assumption | rfl | omega | (simp; done) | (simp; omega) | (simp_all; done)))
            (refine Chain.gF [4, 5, 3, 0, 6, 1, 7, 2, 8] rfl rfl rfl rfl rfl ?_ rfl ?_; iterate 1 (· first | assumption | rfl | omega | (simp; done) | (simp; omega) | (simp_all; done)))
            (refine Chain.step [4, 5, 3, 6, 7, 0, 8, 1, 9, 2] rfl rfl rfl (Pur.stepA (P_pick_true rfl ?_ rfl)) rfl ?_; iterate 1 (· first | assumption | rfl | omega | (simp; done) | (simp; omega) | (simp_all; done)))
            refine Chain.step [4, 5, 3, 6, 7, 0, 8, 1, 9, 2, 10] rfl rfl rfl (Pur.stepA (P_move rfl)) rfl ?_
            (refine Chain.gF [4, 5, 3, 6, 7, 0, 8, 1, 9, 2, 10, 11] rfl rfl rfl rfl rfl ?_ rfl ?_; iterate 1 (· first | assumption | rfl | omega | (simp; done) | (simp; omega) | (simp_all; done)))
            (refine Chain.gF [4, 5, 3, 6, 7, 0, 8, 1, 9, 2, 10, 11] rfl rfl rfl rfl rfl ?_ rfl ?_; iterate 1 (· first | assumption | rfl | omega | (simp; done) | (simp; omega) | (simp_all; done)))
            (refine Chain.gF [4, 5, 3, 6, 7, 0, 8, 1, 9, 2, 10, 11] rfl rfl rfl rfl rfl ?_ rfl ?_; iterate 1 (· first | assumption | rfl | omega | (simp; done) | (simp; omega) | (simp_all; done)))
            (refine Chain.gF [4, 5, 3, 6, 7, 0, 8, 1, 9, 2, 10, 11, 14] rfl rfl rfl rfl rfl ?_ rfl ?_; iterate 1 (· first | assumption | rfl | omega | (simp; done) | (simp; omega) | (simp_all; done)))
            (refine Chain.gF [4, 5, 3, 6, 7, 0, 8, 1, 9, 2, 10, 14, 11, 15, 13] rfl rfl rfl rfl rfl ?_ rfl ?_; iterate 1 (· first | assumption | rfl | omega | (simp; done) | (simp; omega) | (simp_all; done)))
            (refine Chain.gF [4, 5, 3, 6, 7, 0, 8, 1, 9, 14, 2, 10, 15, 13, 11, 16] rfl rfl rfl rfl rfl ?_ rfl ?_; iterate 1 (· first | assumption | rfl | omega | (simp; done) | (simp; omega) | (simp_all; done)))
            (refine Chain.gF [4, 5, 3, 6, 7, 0, 8, 14, 1, 9, 15, 13, 2, 10, 16, 11, 17, 12] rfl rfl rfl rfl rfl ?_ rfl ?_; iterate 1 (· first | assumption | rfl | omega | (simp; done) | (simp; omega) | (simp_all; done)))
            (refine Chain.gF [4, 5, 3, 6, 7, 14, 0, 8, 15, 13, 1, 9, 16, 2, 10, 17, 12, 11, 18] rfl rfl rfl rfl rfl ?_ rfl ?_; iterate 1 (· first | assumption | rfl | omega | (simp; done) | (simp; omega) | (simp_all; done)))
            (refine Chain.gF [4, 5, 3, 6, 14, 7, 15, 13, 0, 8, 16, 1, 9, 17, 12, 2, 10, 18, 11, 19] rfl rfl rfl rfl rfl ?_ rfl ?_; iterate 1 (· first | assumption | rfl | omega | (simp; done) | (simp; omega) | (simp_all; done)))
            (refine Chain.step [4, 14, 5, 3, 15, 13, 6, 16, 7, 17, 12, 0, 8, 18, 1, 9, 19, 2, 10, 20, 11] rfl rfl rfl (Pur.stepA (P_pick_true rfl ?_ rfl)) rfl ?_; iterate 1 (· first | assumption | rfl | omega | (simp; done) | (simp; omega) | (simp_all; done)))
            refine Chain.tail [] rfl rfl ?_
            refine Ex.nil ?_
            refine X.cond rfl (fun hc9 => ?_) (fun hc9 => ?_)
            · try simp only [decide_eq_true_eq, decide_eq_false_iff_not, Bool.not_eq_true', Bool.not_eq_false', Bool.and_eq_true, Bool.or_eq_true, Bool.and_eq_false_iff, Bool.or_eq_false_iff, Int.not_lt, Int.not_le, Decidable.not_not] at hc9
              refine X.seq ?_
              refine X.region ?_
              refine Ex.pur (P_assign rfl) rfl ?_
              refine Ex.nil ?_
              refine X.ret ?_
              refine RetQ.ret (.one (.tmp rfl (LeV.eq ?_)))
              all_goals (rw [hk2, ckFrom_bad hs (by rw [hF]; decide), hF])
            try simp only [decide_eq_true_eq, decide_eq_false_iff_not, Bool.not_eq_true', Bool.not_eq_false', Bool.and_eq_true, Bool.or_eq_true, Bool.and_eq_false_iff, Bool.or_eq_false_iff, Int.not_lt, Int.not_le, Decidable.not_not] at hc9
            simp at hc9
          · have hg2 : (decide ((k : Int) = 0) == false) = true := by simp; omega
            have hg3 : decide ((k : Int) = 0) = false := by simp; omega
            have hsp2 : l[((k : Int) - 1).toNat]? = some sp := by rw [show ((k : Int) - 1).toNat = k - 1 by omega]; exact hsp
            obtain ⟨j, hj⟩ : ∃ j, k = j + 1 := ⟨k - 1, by omega⟩
            have hsj : l[j]? = some sp := by rw [show k - 1 = j by omega] at hsp; exact hsp
            have hg4 : (decide (sp.Kind = 3) == false) = false := by simp [hkd]
            have hg5 : decide (sp.Kind = 3) = true := by simp [hkd]
            have hF : sgF m l k s = 13 := by rw [hj]; unfold sgF; rw [if_neg (by omega), if_pos hc8]; simp only [hsj]; rw [if_pos (.inl hkd)]
            refine X.draw [35, 36, 37, 38, 39, 40, 41, 42, 43, 44, 45, 46, 47, 48, 49, 50, 51, 52, 53, 54, 55, 56] mo rfl ?_
            refine Chain.step [] rfl rfl rfl (Pur.stepA (P_move rfl)) rfl ?_
            refine Chain.step [0] rfl rfl rfl (Pur.stepA (P_eql rfl rfl)) rfl ?_
            refine Chain.step [0, 1] rfl rfl rfl (Pur.stepA (P_move rfl)) rfl ?_
            (refine Chain.gT [0, 1, 2] rfl rfl rfl rfl rfl ?_ (Pur.stepA (P_move rfl)) rfl ?_; iterate 1 (· first | assumption | rfl | omega | (simp; done) | (simp; omega) | (simp_all; done)))
            (refine Chain.gT [0, 1, 2] rfl rfl rfl rfl rfl ?_ (Pur.stepA (P_move rfl)) rfl ?_; iterate 1 (· first | assumption | rfl | omega | (simp; done) | (simp; omega) | (simp_all; done)))
            (refine Chain.gT [0, 1, 2, 4] rfl rfl rfl rfl rfl ?_ (Pur.stepA (P_sub rfl rfl (IntWalk.i64_in _ (by omega)))) rfl ?_; iterate 1 (· first | assumption | rfl | omega | (simp; done) | (simp; omega) | (simp_all; done)))
            first
              | (refine Chain.gT [0, 1, 4, 2, 5, 3] rfl rfl rfl rfl rfl ?_ (Pur.stepA (P_index_sl rfl rfl sl41 ty64 (fun _ => rfl) (by omega) (by assumption))) rfl ?_; iterate 1 (· first | assumption | rfl | omega | (simp; done) | (simp; omega) | (simp_all; done)))
              | (refine Chain.gT [0, 1, 4, 2, 5, 3] rfl rfl rfl rfl rfl ?_ (Pur.stepA (P_index_own rfl rfl rfl sl41 ty64 (by omega) (by omega))) rfl ?_; iterate 1 (· first | assumption | rfl | omega | (simp; done) | (simp; omega) | (simp_all; done)))
            first
              | (refine Chain.gT [0, 4, 1, 5, 3, 2, 6] rfl rfl rfl rfl rfl ?_ (Pur.stepA (P_fieldAddr_ptr rfl fo64_0)) rfl ?_; iterate 1 (· first | assumption | rfl | omega | (simp; done) | (simp; omega) | (simp_all; done)))
              | (refine Chain.gT [0, 4, 1, 5, 3, 2, 6] rfl rfl rfl rfl rfl ?_ (Pur.stepA (P_fieldAddr_ept rfl fo64_0)) rfl ?_; iterate 1 (· first | assumption | rfl | omega | (simp; done) | (simp; omega) | (simp_all; done)))
            first
              | (refine Chain.gT [4, 0, 5, 3, 1, 6, 2, 7] rfl rfl rfl rfl rfl ?_ (Pur.stepA (P_load_box rfl rfl rfl ty3)) rfl ?_; iterate 1 (· first | assumption | rfl | omega | (simp; done) | (simp; omega) | (simp_all; done)))
              | (refine Chain.gT [4, 0, 5, 3, 1, 6, 2, 7] rfl rfl rfl rfl rfl ?_ (Pur.stepA (P_load_ept rfl rfl rfl ty3)) rfl ?_; iterate 1 (· first | assumption | rfl | omega | (simp; done) | (simp; omega) | (simp_all; done)))
              | (refine Chain.gT [4, 0, 5, 3, 1, 6, 2, 7] rfl rfl rfl rfl rfl ?_ (Pur.stepA (P_load_row rfl rfl (by assumption) rfl rfl ty3)) rfl ?_; iterate 1 (· first | assumption | rfl | omega | (simp; done) | (simp; omega) | (simp_all; done)))
            (refine Chain.gT [4, 5, 3, 0, 6, 1, 7, 2, 8] rfl rfl rfl rfl rfl ?_ (Pur.stepA (P_eql rfl rfl)) rfl ?_; iterate 1 (· first | assumption | rfl | omega | (simp; done) | (simp; omega) | (simp_all; done)))
            (refine Chain.step [4, 5, 3, 6, 7, 0, 8, 1, 9, 2] rfl rfl rfl (Pur.stepA (P_pick_false rfl ?_ rfl)) rfl ?_; iterate 1 (· first | assumption | rfl | omega | (simp; done) | (simp; omega) | (simp_all; done)))
            refine Chain.step [4, 5, 3, 6, 7, 0, 8, 1, 9, 2, 10] rfl rfl rfl (Pur.stepA (P_move rfl)) rfl ?_
            (refine Chain.gF [4, 5, 3, 6, 7, 0, 8, 1, 9, 2, 10, 11] rfl rfl rfl rfl rfl ?_ rfl ?_; iterate 1 (· first | assumption | rfl | omega | (simp; done) | (simp; omega) | (simp_all; done)))
            (refine Chain.gF [4, 5, 3, 6, 7, 0, 8, 1, 9, 2, 10, 11] rfl rfl rfl rfl rfl ?_ rfl ?_; iterate 1 (· first | assumption | rfl | omega | (simp; done) | (simp; omega) | (simp_all; done)))
            (refine Chain.gF [4, 5, 3, 6, 7, 0, 8, 1, 9, 2, 10, 11] rfl rfl rfl rfl rfl ?_ rfl ?_; iterate 1 (· first | assumption | rfl | omega | (simp; done) | (simp; omega) | (simp_all; done)))
            (refine Chain.gF [4, 5, 3, 6, 7, 0, 8, 1, 9, 2, 10, 11, 14] rfl rfl rfl rfl rfl ?_ rfl ?_; iterate 1 (· first | assumption | rfl | omega | (simp; done) | (simp; omega) | (simp_all; done)))
            (refine Chain.gF [4, 5, 3, 6, 7, 0, 8, 1, 9, 2, 10, 14, 11, 15, 13] rfl rfl rfl rfl rfl ?_ rfl ?_; iterate 1 (· first | assumption | rfl | omega | (simp; done) | (simp; omega) | (simp_all; done)))
            (refine Chain.gF [4, 5, 3, 6, 7, 0, 8, 1, 9, 14, 2, 10, 15, 13, 11, 16] rfl rfl rfl rfl rfl ?_ rfl ?_; iterate 1 (· first | assumption | rfl | omega | (simp; done) | (simp; omega) | (simp_all; done)))
            (refine Chain.gF [4, 5, 3, 6, 7, 0, 8, 14, 1, 9, 15, 13, 2, 10, 16, 11, 17, 12] rfl rfl rfl rfl rfl ?_ rfl ?_; iterate 1 (· first | assumption | rfl | omega | (simp; done) | (simp; omega) | (simp_all; done)))
            (refine Chain.gF [4, 5, 3, 6, 7, 14, 0, 8, 15, 13, 1, 9, 16, 2, 10, 17, 12, 11, 18] rfl rfl rfl rfl rfl ?_ rfl ?_; iterate 1 (· first | assumption | rfl | omega | (simp; done) | (simp; omega) | (simp_all; done)))
            (refine Chain.gF [4, 5, 3, 6, 14, 7, 15, 13, 0, 8, 16, 1, 9, 17, 12, 2, 10, 18, 11, 19] rfl rfl rfl rfl rfl ?_ rfl ?_; iterate 1 (· first | assumption | rfl | omega | (simp; done) | (simp; omega) | (simp_all; done)))
            (refine Chain.step [4, 14, 5, 3, 15, 13, 6, 16, 7, 17, 12, 0, 8, 18, 1, 9, 19, 2, 10, 20, 11] rfl rfl rfl (Pur.stepA (P_pick_true rfl ?_ rfl)) rfl ?_; iterate 1 (· first | assumption | rfl | omega | (simp; done) | (simp; omega) | (simp_all; done)))
            refine Chain.tail [] rfl rfl ?_
            refine Ex.nil ?_
            refine X.cond rfl (fun hc10 => ?_) (fun hc10 => ?_)
            · try simp only [decide_eq_true_eq, decide_eq_false_iff_not, Bool.not_eq_true', Bool.not_eq_false', Bool.and_eq_true, Bool.or_eq_true, Bool.and_eq_false_iff, Bool.or_eq_false_iff, Int.not_lt, Int.not_le, Decidable.not_not] at hc10
              refine X.seq ?_
              refine X.region ?_
              refine Ex.pur (P_assign rfl) rfl ?_
              refine Ex.nil ?_
              refine X.ret ?_
              refine RetQ.ret (.one (.tmp rfl (LeV.eq ?_)))
              all_goals (rw [hk2, ckFrom_bad hs (by rw [hF]; decide), hF])
            try simp only [decide_eq_true_eq, decide_eq_false_iff_not, Bool.not_eq_true', Bool.not_eq_false', Bool.and_eq_true, Bool.or_eq_true, Bool.and_eq_false_iff, Bool.or_eq_false_iff, Int.not_lt, Int.not_le, Decidable.not_not] at hc10
            simp at hc10
          · have hg2 : (decide ((k : Int) = 0) == false) = true := by simp; omega
            have hg3 : decide ((k : Int) = 0) = false := by simp; omega
            have hsp2 : l[((k : Int) - 1).toNat]? = some sp := by rw [show ((k : Int) - 1).toNat = k - 1 by omega]; exact hsp
            obtain ⟨j, hj⟩ : ∃ j, k = j + 1 := ⟨k - 1, by omega⟩
            have hsj : l[j]? = some sp := by rw [show k - 1 = j by omega] at hsp; exact hsp
            have hg4 : (decide (sp.Kind = 3) == false) = true := by simp [hkd]
            have hg5 : decide (sp.Kind = 3) = false := by simp [hkd]
            refine X.draw [35, 36, 37, 38, 39, 40, 41, 42, 43, 44, 45, 46, 47, 48, 49, 50, 51, 52, 53, 54, 55, 56] mo rfl ?_
            refine Chain.step [] rfl rfl rfl (Pur.stepA (P_move rfl)) rfl ?_
            refine Chain.step [0] rfl rfl rfl (Pur.stepA (P_eql rfl rfl)) rfl ?_
            refine Chain.step [0, 1] rfl rfl rfl (Pur.stepA (P_move rfl)) rfl ?_
            (refine Chain.gT [0, 1, 2] rfl rfl rfl rfl rfl ?_ (Pur.stepA (P_move rfl)) rfl ?_; iterate 1 (· first | assumption | rfl | omega | (simp; done) | (simp; omega) | (simp_all; done)))
            (refine Chain.gT [0, 1, 2] rfl rfl rfl rfl rfl ?_ (Pur.stepA (P_move rfl)) rfl ?_; iterate 1 (· first | assumption | rfl | omega | (simp; done) | (simp; omega) | (simp_all; done)))
            (refine Chain.gT [0, 1, 2, 4] rfl rfl rfl rfl rfl ?_ (Pur.stepA (P_sub rfl rfl (IntWalk.i64_in _ (by omega)))) rfl ?_; iterate 1 (· first | assumption | rfl | omega | (simp; done) | (simp; omega) | (simp_all; done)))
            first
              | (refine Chain.gT [0, 1, 4, 2, 5, 3] rfl rfl rfl rfl rfl ?_ (Pur.stepA (P_index_sl rfl rfl sl41 ty64 (fun _ => rfl) (by omega) (by assumption))) rfl ?_; iterate 1 (· first | assumption | rfl | omega | (simp; done) | (simp; omega) | (simp_all; done)))
              | (refine Chain.gT [0, 1, 4, 2, 5, 3] rfl rfl rfl rfl rfl ?_ (Pur.stepA (P_index_own rfl rfl rfl sl41 ty64 (by omega) (by omega))) rfl ?_; iterate 1 (· first | assumption | rfl | omega | (simp; done) | (simp; omega) | (simp_all; done)))
            first
              | (refine Chain.gT [0, 4, 1, 5, 3, 2, 6] rfl rfl rfl rfl rfl ?_ (Pur.stepA (P_fieldAddr_ptr rfl fo64_0)) rfl ?_; iterate 1 (· first | assumption | rfl | omega | (simp; done) | (simp; omega) | (simp_all; done)))
              | (refine Chain.gT [0, 4, 1, 5, 3, 2, 6] rfl rfl rfl rfl rfl ?_ (Pur.stepA (P_fieldAddr_ept rfl fo64_0)) rfl ?_; iterate 1 (· first | assumption | rfl | omega | (simp; done) | (simp; omega) | (simp_all; done)))
            first
              | (refine Chain.gT [4, 0, 5, 3, 1, 6, 2, 7] rfl rfl rfl rfl rfl ?_ (Pur.stepA (P_load_box rfl rfl rfl ty3)) rfl ?_; iterate 1 (· first | assumption | rfl | omega | (simp; done) | (simp; omega) | (simp_all; done)))
              | (refine Chain.gT [4, 0, 5, 3, 1, 6, 2, 7] rfl rfl rfl rfl rfl ?_ (Pur.stepA (P_load_ept rfl rfl rfl ty3)) rfl ?_; iterate 1 (· first | assumption | rfl | omega | (simp; done) | (simp; omega) | (simp_all; done)))
              | (refine Chain.gT [4, 0, 5, 3, 1, 6, 2, 7] rfl rfl rfl rfl rfl ?_ (Pur.stepA (P_load_row rfl rfl (by assumption) rfl rfl ty3)) rfl ?_; iterate 1 (· first | assumption | rfl | omega | (simp; done) | (simp; omega) | (simp_all; done)))
            (refine Chain.gT [4, 5, 3, 0, 6, 1, 7, 2, 8] rfl rfl rfl rfl rfl ?_ (Pur.stepA (P_eql rfl rfl)) rfl ?_; iterate 1 (· first | assumption | rfl | omega | (simp; done) | (simp; omega) | (simp_all; done)))
            (refine Chain.step [4, 5, 3, 6, 7, 0, 8, 1, 9, 2] rfl rfl rfl (Pur.stepA (P_pick_false rfl ?_ rfl)) rfl ?_; iterate 1 (· first | assumption | rfl | omega | (simp; done) | (simp; omega) | (simp_all; done)))
            refine Chain.step [4, 5, 3, 6, 7, 0, 8, 1, 9, 2, 10] rfl rfl rfl (Pur.stepA (P_move rfl)) rfl ?_
            first
              | (refine Chain.gT [4, 5, 3, 6, 7, 0, 8, 1, 9, 2, 10, 11] rfl rfl rfl rfl rfl ?_ (Pur.stepA (P_load_box_all rfl rfl rfl rfl ty23)) rfl ?_; iterate 1 (· first | assumption | rfl | omega | (simp; done) | (simp; omega) | (simp_all; done)))
              | (refine Chain.gT [4, 5, 3, 6, 7, 0, 8, 1, 9, 2, 10, 11] rfl rfl rfl rfl rfl ?_ (Pur.stepA (P_load_ept_all rfl rfl rfl ty23)) rfl ?_; iterate 1 (· first | assumption | rfl | omega | (simp; done) | (simp; omega) | (simp_all; done)))
              | (refine Chain.gT [4, 5, 3, 6, 7, 0, 8, 1, 9, 2, 10, 11] rfl rfl rfl rfl rfl ?_ (Pur.stepA (P_load_ept_part rfl rfl rfl rfl ty23)) rfl ?_; iterate 1 (· first | assumption | rfl | omega | (simp; done) | (simp; omega) | (simp_all; done)))
              | (refine Chain.gT [4, 5, 3, 6, 7, 0, 8, 1, 9, 2, 10, 11] rfl rfl rfl rfl rfl ?_ (Pur.stepA (P_load_box_part rfl rfl rfl rfl ty23)) rfl ?_; iterate 1 (· first | assumption | rfl | omega | (simp; done) | (simp; omega) | (simp_all; done)))
            (refine Chain.gT [4, 5, 3, 6, 7, 0, 8, 1, 9, 2, 10, 11] rfl rfl rfl rfl rfl ?_ (Pur.stepA (P_move rfl)) rfl ?_; iterate 1 (· first | assumption | rfl | omega | (simp; done) | (simp; omega) | (simp_all; done)))
            (refine Chain.gT [4, 5, 3, 6, 7, 0, 8, 1, 9, 2, 10, 11] rfl rfl rfl rfl rfl ?_ (Pur.stepA (P_move rfl)) rfl ?_; iterate 1 (· first | assumption | rfl | omega | (simp; done) | (simp; omega) | (simp_all; done)))
            (refine Chain.gT [4, 5, 3, 6, 7, 0, 8, 1, 9, 2, 10, 11, 14] rfl rfl rfl rfl rfl ?_ (Pur.stepA (P_sub rfl rfl (IntWalk.i64_in _ (by omega)))) rfl ?_; iterate 1 (· first | assumption | rfl | omega | (simp; done) | (simp; omega) | (simp_all; done)))
            first
              | (refine Chain.gT [4, 5, 3, 6, 7, 0, 8, 1, 9, 2, 10, 14, 11, 15, 13] rfl rfl rfl rfl rfl ?_ (Pur.stepA (P_index_sl rfl rfl sl41 ty64 (fun _ => rfl) (by omega) (by assumption))) rfl ?_; iterate 1 (· first | assumption | rfl | omega | (simp; done) | (simp; omega) | (simp_all; done)))
              | (refine Chain.gT [4, 5, 3, 6, 7, 0, 8, 1, 9, 2, 10, 14, 11, 15, 13] rfl rfl rfl rfl rfl ?_ (Pur.stepA (P_index_own rfl rfl rfl sl41 ty64 (by omega) (by omega))) rfl ?_; iterate 1 (· first | assumption | rfl | omega | (simp; done) | (simp; omega) | (simp_all; done)))
            first
              | (refine Chain.gT [4, 5, 3, 6, 7, 0, 8, 1, 9, 14, 2, 10, 15, 13, 11, 16] rfl rfl rfl rfl rfl ?_ (Pur.stepA (P_load_ept_all rfl rfl rfl ty64)) rfl ?_; iterate 1 (· first | assumption | rfl | omega | (simp; done) | (simp; omega) | (simp_all; done)))
              | (refine Chain.gT [4, 5, 3, 6, 7, 0, 8, 1, 9, 14, 2, 10, 15, 13, 11, 16] rfl rfl rfl rfl rfl ?_ (Pur.stepA (P_load_ept_part rfl rfl rfl rfl ty64)) rfl ?_; iterate 1 (· first | assumption | rfl | omega | (simp; done) | (simp; omega) | (simp_all; done)))
            (refine Chain.gT [4, 5, 3, 6, 7, 0, 8, 14, 1, 9, 15, 13, 2, 10, 16, 11, 17, 12] rfl rfl rfl rfl rfl ?_ (A_call rfl rfl rfl (LeL.refl _) (C_dot_meanings m _)) rfl ?_; iterate 1 (· first | assumption | rfl | omega | (simp; done) | (simp; omega) | (simp_all; done)))
            first
              | (refine Chain.gT [4, 5, 3, 6, 7, 14, 0, 8, 15, 13, 1, 9, 16, 2, 10, 17, 12, 11, 18] rfl rfl rfl rfl rfl ?_ (Pur.stepA (P_len_sl rfl sl29)) rfl ?_; iterate 1 (· first | assumption | rfl | omega | (simp; done) | (simp; omega) | (simp_all; done)))
              | (refine Chain.gT [4, 5, 3, 6, 7, 14, 0, 8, 15, 13, 1, 9, 16, 2, 10, 17, 12, 11, 18] rfl rfl rfl rfl rfl ?_ (Pur.stepA (P_len_own rfl rfl sl29)) rfl ?_; iterate 1 (· first | assumption | rfl | omega | (simp; done) | (simp; omega) | (simp_all; done)))
              | (refine Chain.gT [4, 5, 3, 6, 7, 14, 0, 8, 15, 13, 1, 9, 16, 2, 10, 17, 12, 11, 18] rfl rfl rfl rfl rfl ?_ (Pur.stepA (P_len_nils rfl sl29)) rfl ?_; iterate 1 (· first | assumption | rfl | omega | (simp; done) | (simp; omega) | (simp_all; done)))
            (refine Chain.gT [4, 5, 3, 6, 14, 7, 15, 13, 0, 8, 16, 1, 9, 17, 12, 2, 10, 18, 11, 19] rfl rfl rfl rfl rfl ?_ (Pur.stepA (P_eql rfl rfl)) rfl ?_; iterate 1 (· first | assumption | rfl | omega | (simp; done) | (simp; omega) | (simp_all; done)))
            (refine Chain.step [4, 14, 5, 3, 15, 13, 6, 16, 7, 17, 12, 0, 8, 18, 1, 9, 19, 2, 10, 20, 11] rfl rfl rfl (Pur.stepA (P_pick_false rfl ?_ rfl)) rfl ?_; iterate 1 (· first | assumption | rfl | omega | (simp; done) | (simp; omega) | (simp_all; done)))
            refine Chain.tail [] rfl rfl ?_
            refine Ex.nil ?_
            refine X.cond rfl (fun hc11 => ?_) (fun hc11 => ?_)
            · try simp only [decide_eq_true_eq, decide_eq_false_iff_not, Bool.not_eq_true', Bool.not_eq_false', Bool.and_eq_true, Bool.or_eq_true, Bool.and_eq_false_iff, Bool.or_eq_false_iff, Int.not_lt, Int.not_le, Decidable.not_not] at hc11
              have hF : sgF m l k s = 13 := by rw [hj]; unfold sgF; rw [if_neg (by omega), if_pos hc8]; simp only [hsj]; rw [if_pos (.inr (by omega))]
              refine X.seq ?_
              refine X.region ?_
              refine Ex.pur (P_assign rfl) rfl ?_
              refine Ex.nil ?_
              refine X.ret ?_
              refine RetQ.ret (.one (.tmp rfl (LeV.eq ?_)))
              all_goals (rw [hk2, ckFrom_bad hs (by rw [hF]; decide), hF])
            try simp only [decide_eq_true_eq, decide_eq_false_iff_not, Bool.not_eq_true', Bool.not_eq_false', Bool.and_eq_true, Bool.or_eq_true, Bool.and_eq_false_iff, Bool.or_eq_false_iff, Int.not_lt, Int.not_le, Decidable.not_not] at hc11
            have h0 : sgF m l k s = 0 := by rw [hj]; unfold sgF; rw [if_neg (by omega), if_pos hc8]; simp only [hsj]; rw [if_neg (by omega)]
            refine X.skip ?_
            refine X.region ?_
            refine Ex.pur (P_add rfl rfl (IntWalk.i64_in _ (by omega))) rfl ?_
            refine Ex.pur (P_move rfl) rfl ?_
            refine Ex.nil ?_
            refine ⟨k + 1, Imp.of (by (repeat' (first | exact True.intro | (refine And.intro ⟨_, rfl, ?_⟩ ?_; (first | exact LeV.refl _ | exact LeV.any _ | exact LeB.refl _ | (refine LeV.eq ?_; simp; done) | (refine LeV.eq ?_; congr 1; omega) | (refine LeV.eq ?_; dsimp only; congr 1; omega) | (refine LeV.eq (congrArg (AV.int _) ?_); omega) | exact LeV.nils _ | exact LeB.row (by assumption) | (refine LeB.eq ?_; congr 1; omega) | (refine LeB.eq ?_; congr 1; simp only [cond_true, cond_false]; omega)))))) (by (repeat' (first | exact True.intro | (refine And.intro ⟨_, rfl, ?_⟩ ?_; (first | exact LeV.refl _ | exact LeV.any _ | exact LeB.refl _ | (refine LeV.eq ?_; simp; done) | (refine LeV.eq ?_; congr 1; omega) | (refine LeV.eq ?_; dsimp only; congr 1; omega) | (refine LeV.eq (congrArg (AV.int _) ?_); omega) | exact LeV.nils _ | exact LeB.row (by assumption) | (refine LeB.eq ?_; congr 1; omega) | (refine LeB.eq ?_; congr 1; simp only [cond_true, cond_false]; omega)))))), ?_, ?_⟩
            · exact ⟨by omega, by rw [hk2, ckFrom_ok hs h0]⟩
            · omega
        · try simp only [decide_eq_true_eq, decide_eq_false_iff_not, Bool.not_eq_true', Bool.not_eq_false', Bool.and_eq_true, Bool.or_eq_true, Bool.and_eq_false_iff, Bool.or_eq_false_iff, Int.not_lt, Int.not_le, Decidable.not_not] at hc8
          have hF : sgF m l k s = 8 := by unfold sgF; rw [if_neg (by omega), if_neg (by omega)]
          refine X.seq ?_
          refine X.region ?_
          refine Ex.pur (P_assign rfl) rfl ?_
          refine Ex.nil ?_
          refine X.ret ?_
          refine RetQ.ret (.one (.tmp rfl (LeV.eq ?_)))
          all_goals (rw [hk2, ckFrom_bad hs (by rw [hF]; decide), hF])
  · try simp only [decide_eq_true_eq, decide_eq_false_iff_not, Bool.not_eq_true', Bool.not_eq_false', Bool.and_eq_true, Bool.or_eq_true, Bool.and_eq_false_iff, Bool.or_eq_false_iff, Int.not_lt, Int.not_le, Decidable.not_not] at hc2
    refine X.exit ?_
    refine X.seq ?_
    refine X.region ?_
    refine Ex.pur (P_assign rfl) rfl ?_
    refine Ex.nil ?_
    refine X.ret ?_
    refine RetQ.ret (.one (.tmp rfl (LeV.eq ?_)))
    all_goals (rw [hk2, List.drop_of_length_le (by omega)]; rfl)
end Go.Rse
