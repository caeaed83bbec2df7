/-
  Walks: the meanings of all dots.
-/
import Derived.Test.YteecbmgddacioaaDot3
namespace Go.Rse
open Go Go.Proofs
set_option linter.unusedVariables false
set_option linter.unusedSimpArgs false
attribute [local irreducible] Pur StepA StepM Ex X ExG Fn Imp LeV LeB FnO It YStep
theorem ckFrom_all {m : Mn} {l : List Sg} (h : ckFrom m l 0 l = 0) : ∀ k, k ≤ l.length → ckFrom m l k (l.drop k) = 0 ∧ ∀ i s, i < k → l[i]? = some s → sgF m l i s = 0
  | 0, _ => ⟨h, fun i s hi => absurd hi (Nat.not_lt_zero i)⟩
  | k + 1, hk => by
    obtain ⟨h1, h2⟩ := ckFrom_all h k (by omega)
    have hs : l[k]? = some l[k] := List.getElem?_eq_getElem (by omega)
    have h0 : sgF m l k l[k] = 0 := by
      by_cases h0 : sgF m l k l[k] = 0
      · exact h0
      · rw [ckFrom_bad hs h0] at h1; exact h1
    refine ⟨by rw [← ckFrom_ok hs h0]; exact h1, fun i s hi he => ?_⟩
    rcases Nat.lt_succ_iff_lt_or_eq.1 hi with h3 | h3
    · exact h2 i s h3 he
    · subst h3; rw [hs] at he; injection he with he; subst he; exact h0
theorem dotsK_mem {m : Mn} {l : List Sg} (h : ckFrom m l 0 l = 0) : ∀ k, k ≤ l.length → ∀ x, x ∈ dotsK l k → ∃ (j : Nat) (s p : Sg), x = ((j + 1 : Nat) : Int) ∧ l[j + 1]? = some s ∧ l[j]? = some p
  | 0, _, x, hx => by simp [dotsK] at hx
  | k + 1, hk, x, hx => by
    simp only [dotsK, List.mem_append] at hx
    rcases hx with hx | hx
    · exact dotsK_mem h k (by omega) x hx
    · have hs : l[k]? = some l[k] := List.getElem?_eq_getElem (by omega)
      simp only [hs] at hx
      split at hx
      · rename_i hK
        have h0 := (ckFrom_all h (k + 1) hk).2 k _ (by omega) hs
        simp at hx
        cases k with
        | zero => unfold sgF at h0; rw [if_neg (by omega), if_pos hK] at h0; simp at h0
        | succ j => exact ⟨j, _, _, hx, hs, List.getElem?_eq_getElem (by omega)⟩
      · simp at hx
/-- The sign before the place i. -/
def prevS (l : List Sg) (i : Int) : Option Sg := l[(i - 1).toNat]?
def mnAt (m : Mn) (l : List Sg) (i : Int) : List Int := match prevS l i with | some p => mngs m p | none => []
/-- The meanings of the dots of a valid run. -/
def mnsD (m : Mn) (l : List Sg) : List (List Int) := (dotsK l l.length).map (mnAt m l)
theorem mnsD_take {m : Mn} {l : List Sg} {L : List Int} {k : Nat} {x : Int} {p : Sg} (h : L[k]? = some x) (hp : l[(x - 1).toNat]? = some p) : (L.take k).map (mnAt m l) ++ [mngs m p] = (L.take (k + 1)).map (mnAt m l) := by
  have e : mnAt m l x = mngs m p := by unfold mnAt prevS; rw [hp]
  rw [List.take_add_one, h]
  simp [e]
theorem C_dot_Meanings (m : Mn) (l : List Sg) (hl : l.length ≤ 60) : Fn Try.prog 32 [mnA m, sgsA l] (.tup [listsA (if ckD m l = 0 then mnsD m l else []), iv (ckD m l)]) := by
  refine Fn.intro (ts := [(0, mnA m), (1, sgsA l)]) (rv := [.tmp 4, .tmp 5]) (n := 35) (by kernel_rfl) Try.func32 rfl Try.ntmps32 rfl rfl rfl (by simp) (fun g w d => ?_)
  refine X.seq ?_
  refine X.region ?_
  refine Ex.stepA (A_box_agg (k := 2) rfl rfl) rfl rfl ?_
  refine Ex.pur (P_assign rfl) rfl ?_
  refine Ex.pur (P_assign rfl) rfl ?_
  refine Ex.nil ?_
  refine X.seq ?_
  refine X.seq ?_
  refine X.region ?_
  first
    | refine Ex.pur (P_load_box_all rfl rfl rfl rfl ty23) rfl ?_
    | refine Ex.pur (P_load_ept_all rfl rfl rfl ty23) rfl ?_
    | refine Ex.pur (P_load_ept_part rfl rfl rfl rfl ty23) rfl ?_
    | refine Ex.pur (P_load_box_part rfl rfl rfl rfl ty23) rfl ?_
  refine Ex.pur (P_move rfl) rfl ?_
  refine Ex.call rfl rfl rfl (C_dot_Check m l hl) rfl ?_
  refine Ex.pur (P_assign rfl) rfl ?_
  refine Ex.nil ?_
  refine X.seq ?_
  refine X.region ?_
  refine Ex.pur (P_move rfl) rfl ?_
  refine Ex.pur (P_neq rfl rfl) rfl ?_
  refine Ex.nil ?_
  refine X.cond rfl (fun hc1 => ?_) (fun hc1 => ?_)
  · try simp only [decide_eq_true_eq, decide_eq_false_iff_not, Bool.not_eq_true', Bool.not_eq_false', Bool.and_eq_true, Bool.or_eq_true, Bool.and_eq_false_iff, Bool.or_eq_false_iff, Int.not_lt, Int.not_le, Decidable.not_not] at hc1
    refine X.seq ?_
    refine X.region ?_
    refine Ex.pur (P_move rfl) rfl ?_
    refine Ex.pur (P_assign rfl) rfl ?_
    refine Ex.pur (P_assign rfl) rfl ?_
    refine Ex.nil ?_
    refine X.ret ?_
    refine RetQ.imp (Imp.of (ts := [(4, listsA []), (5, iv (ckD m l))]) (hs := []) (by (repeat' (first | exact True.intro | (refine And.intro ⟨_, rfl, ?_⟩ ?_; (first | exact LeV.refl _ | exact LeV.any _ | exact LeB.refl _ | (refine LeV.eq ?_; simp; done) | (refine LeV.eq ?_; congr 1; omega) | (refine LeV.eq ?_; dsimp only; congr 1; omega) | (refine LeV.eq (congrArg (AV.int _) ?_); omega) | exact LeV.nils _ | exact LeB.row (by assumption) | (refine LeB.eq ?_; congr 1; omega) | (refine LeB.eq ?_; congr 1; simp only [cond_true, cond_false]; omega)))))) trivial) ?_
    refine RetQ.ret (.many (by decide) (.cons (.tmp rfl (LeV.eq ?_)) (.cons (.tmp rfl (LeV.eq ?_)) .nil)))
    all_goals (first | (simp [hc1]; done) | (rw [if_pos hc1, ← hfin]; rfl) | (rw [if_neg hc1]) | (rw [hc1]; rfl) | rfl)
  try simp only [decide_eq_true_eq, decide_eq_false_iff_not, Bool.not_eq_true', Bool.not_eq_false', Bool.and_eq_true, Bool.or_eq_true, Bool.and_eq_false_iff, Bool.or_eq_false_iff, Int.not_lt, Int.not_le, Decidable.not_not] at hc1
  refine X.skip ?_
  refine X.seq ?_
  refine X.region ?_
  refine Ex.pur (P_assign rfl) rfl ?_
  refine Ex.nil ?_
  refine X.seq ?_
  refine X.seq ?_
  refine X.imp (Imp.mkrow intsE 29 1 7 7 rfl rfl) ?_
  have hcf : ckFrom m l 0 l = 0 := by unfold ckD at hc1; split at hc1
                                      · exact hc1
                                      · exact absurd hc1 (by assumption)
  refine X.region ?_
  refine Ex.pur (P_move rfl) rfl ?_
  refine Ex.call rfl rfl rfl (C_dot_dots l hl) rfl ?_
  first
    | refine Ex.pur (P_len_sl rfl sl29) rfl ?_
    | refine Ex.pur (P_len_own rfl rfl sl29) rfl ?_
    | refine Ex.pur (P_len_nils rfl sl29) rfl ?_
  refine Ex.pur (P_move rfl) rfl ?_
  refine Ex.nil ?_
  refine X.block ?_
  have hdl := dotsK_len l l.length
  refine X.loop (ι := Nat) (fun (k : Nat) => ⟨[(1, sgsA l), (2, .ptr 2 0 0 0), (7, .own 7), (17, intsA (dotsK l l.length)), (18, iv (dotsK l l.length).length), (19, iv (k : Int)), (5, iv 0)], [(2, .box (mnE m) 23), (7, .row intsE (((dotsK l l.length).take k).map (mnAt m l)) 29 1)]⟩) (fun (k : Nat) => k ≤ (dotsK l l.length).length) (fun (k : Nat) => (dotsK l l.length).length - k) 0 ?_ ?_ (fun k hk => ?_)
  · exact Imp.of (by (repeat' (first | exact True.intro | (refine And.intro ⟨_, rfl, ?_⟩ ?_; (first | exact LeV.refl _ | exact LeV.any _ | exact LeB.refl _ | (refine LeV.eq ?_; simp; done) | (refine LeV.eq ?_; congr 1; omega) | (refine LeV.eq ?_; dsimp only; congr 1; omega) | (refine LeV.eq (congrArg (AV.int _) ?_); omega) | exact LeV.nils _ | exact LeB.row (by assumption) | (refine LeB.eq ?_; congr 1; omega) | (refine LeB.eq ?_; congr 1; simp only [cond_true, cond_false]; omega)))))) (by (repeat' (first | exact True.intro | (refine And.intro ⟨_, rfl, ?_⟩ ?_; (first | exact LeV.refl _ | exact LeV.any _ | exact LeB.refl _ | (refine LeV.eq ?_; simp; done) | (refine LeV.eq ?_; congr 1; omega) | (refine LeV.eq ?_; dsimp only; congr 1; omega) | (refine LeV.eq (congrArg (AV.int _) ?_); omega) | exact LeV.nils _ | exact LeB.row (by assumption) | (refine LeB.eq ?_; congr 1; omega) | (refine LeB.eq ?_; congr 1; simp only [cond_true, cond_false]; omega))))))
  · first | trivial | omega | (refine ⟨?_, ?_⟩ <;> omega)
  refine X.seq ?_
  refine X.region ?_
  refine Ex.pur (P_lss rfl rfl) rfl ?_
  refine Ex.nil ?_
  refine X.seq ?_
  refine X.cond rfl (fun hc2 => ?_) (fun hc2 => ?_)
  · try simp only [decide_eq_true_eq, decide_eq_false_iff_not, Bool.not_eq_true', Bool.not_eq_false', Bool.and_eq_true, Bool.or_eq_true, Bool.and_eq_false_iff, Bool.or_eq_false_iff, Int.not_lt, Int.not_le, Decidable.not_not] at hc2
    obtain ⟨x, hx⟩ : ∃ x, (dotsK l l.length)[k]? = some x := ⟨_, List.getElem?_eq_getElem (by omega)⟩
    have hx2 : (dotsK l l.length)[(k : Int).toNat]? = some x := by simpa using hx
    obtain ⟨j, s, p, hj1, hj2, hj3⟩ := dotsK_mem hcf l.length (Nat.le_refl _) x (List.mem_of_getElem? hx)
    have hjl : j + 1 < l.length := (List.getElem?_eq_some_iff.1 hj2).1
    have hp : l[(x - 1).toNat]? = some p := by rw [show (x - 1).toNat = j by omega]; exact hj3
    have hrow2 := mnsD_take (m := m) hx hp
    have htl : (((dotsK l l.length).take k).map (mnAt m l)).length ≤ 60 := by simp; omega
    refine X.skip ?_
    refine X.seq ?_
    refine X.block ?_
    refine X.seq ?_
    refine X.region ?_
    first
      | refine Ex.pur (P_index_sl rfl rfl sl29 ty3 (fun _ => rfl) (by omega) (by assumption)) rfl ?_
      | refine Ex.pur (P_index_own rfl rfl rfl sl29 ty3 (by omega) (by omega)) rfl ?_
    first
      | refine Ex.pur (P_load_box rfl rfl rfl ty3) rfl ?_
      | refine Ex.pur (P_load_ept rfl rfl rfl ty3) rfl ?_
      | refine Ex.pur (P_load_row rfl rfl (by assumption) rfl rfl ty3) rfl ?_
    refine Ex.pur (P_assign rfl) rfl ?_
    refine Ex.nil ?_
    refine X.draw [23, 24, 25, 26, 27, 28, 29, 30, 31] mo rfl ?_
    refine Chain.step [] rfl rfl rfl (Pur.stepA (P_move rfl)) rfl ?_
    first
      | refine Chain.step [] rfl rfl rfl (Pur.stepA (P_load_box_all rfl rfl rfl rfl ty23)) rfl ?_
      | refine Chain.step [] rfl rfl rfl (Pur.stepA (P_load_ept_all rfl rfl rfl ty23)) rfl ?_
      | refine Chain.step [] rfl rfl rfl (Pur.stepA (P_load_ept_part rfl rfl rfl rfl ty23)) rfl ?_
      | refine Chain.step [] rfl rfl rfl (Pur.stepA (P_load_box_part rfl rfl rfl rfl ty23)) rfl ?_
    refine Chain.step [] rfl rfl rfl (Pur.stepA (P_move rfl)) rfl ?_
    refine Chain.step [] rfl rfl rfl (Pur.stepA (P_move rfl)) rfl ?_
    refine Chain.step [3] rfl rfl rfl (Pur.stepA (P_sub rfl rfl (IntWalk.i64_in _ (by omega)))) rfl ?_
    first
      | refine Chain.step [3, 4, 2] rfl rfl rfl (Pur.stepA (P_index_sl rfl rfl sl41 ty64 (fun _ => rfl) (by omega) (by assumption))) rfl ?_
      | refine Chain.step [3, 4, 2] rfl rfl rfl (Pur.stepA (P_index_own rfl rfl rfl sl41 ty64 (by omega) (by omega))) rfl ?_
    first
      | refine Chain.step [3, 4, 2, 5] rfl rfl rfl (Pur.stepA (P_load_ept_all rfl rfl rfl ty64)) rfl ?_
      | refine Chain.step [3, 4, 2, 5] rfl rfl rfl (Pur.stepA (P_load_ept_part rfl rfl rfl rfl ty64)) rfl ?_
    refine Chain.step [3, 4, 2, 5, 6, 1] rfl rfl rfl (A_call rfl rfl rfl (LeL.refl _) (C_dot_meanings m _)) rfl ?_
    refine Chain.step [3, 4, 2, 5, 6, 1, 7] rfl rfl rfl (A_buildSlice (k := 31) (enc := intsE) (l := [_]) sl43 ty29 ze29 (by decide) rfl rfl rfl rfl (by decide) (by decide) (fun _ => rfl) rfl) rfl ?_
    refine Chain.tail [3, 4, 2, 5, 6, 1, 7, 8, 0] rfl rfl ?_
    first
      | (refine Ex.stepM (M_append_own rfl rfl rfl rfl sl43 ti29 (by decide) (by decide) (fun _ => rfl) (fun _ => rfl) ?_ rfl) ?_; iterate 1 (· first | assumption | rfl | omega | (simp; done) | (simp; omega) | (simp_all; done)))
      | (refine Ex.stepM (M_append_sl rfl rfl rfl sl43 ti29 (by decide) (by decide) (fun _ => rfl) (fun _ => rfl) ?_ rfl) ?_; iterate 1 (· first | assumption | rfl | omega | (simp; done) | (simp; omega) | (simp_all; done)))
    refine Ex.pur (P_assign rfl) rfl ?_
    refine Ex.nil ?_
    refine X.region ?_
    refine Ex.pur (P_add rfl rfl (IntWalk.i64_in _ (by omega))) rfl ?_
    refine Ex.pur (P_move rfl) rfl ?_
    refine Ex.nil ?_
    refine ⟨k + 1, Imp.of (by (repeat' (first | exact True.intro | (refine And.intro ⟨_, rfl, ?_⟩ ?_; (first | exact LeV.refl _ | exact LeV.any _ | exact LeB.refl _ | (refine LeV.eq ?_; simp; done) | (refine LeV.eq ?_; congr 1; omega) | (refine LeV.eq ?_; dsimp only; congr 1; omega) | (refine LeV.eq (congrArg (AV.int _) ?_); omega) | exact LeV.nils _ | exact LeB.row (by assumption) | (refine LeB.eq ?_; congr 1; omega) | (refine LeB.eq ?_; congr 1; simp only [cond_true, cond_false]; omega)))))) (by (repeat' (first | exact True.intro | (refine And.intro ⟨_, rfl, ?_⟩ ?_; (first | exact LeV.refl _ | exact LeV.any _ | exact LeB.refl _ | (refine LeV.eq ?_; simp; done) | (refine LeV.eq ?_; congr 1; omega) | (refine LeV.eq ?_; dsimp only; congr 1; omega) | (refine LeV.eq (congrArg (AV.int _) ?_); omega) | exact LeV.nils _ | exact LeB.row (by assumption) | (refine LeB.eq ?_; congr 1; omega) | (refine LeB.eq ?_; congr 1; simp only [cond_true, cond_false]; omega)))))), ?_, ?_⟩
    · first | trivial | omega | (refine ⟨?_, ?_⟩ <;> omega)
    · omega
  · try simp only [decide_eq_true_eq, decide_eq_false_iff_not, Bool.not_eq_true', Bool.not_eq_false', Bool.and_eq_true, Bool.or_eq_true, Bool.and_eq_false_iff, Bool.or_eq_false_iff, Int.not_lt, Int.not_le, Decidable.not_not] at hc2
    have hkl : k = (dotsK l l.length).length := by omega
    subst hkl
    have hfin : ((dotsK l l.length).take (dotsK l l.length).length).map (mnAt m l) = mnsD m l := by rw [List.take_length]; rfl
    refine X.exit ?_
    refine X.seq ?_
    refine X.region ?_
    refine Ex.pur (P_move rfl) rfl ?_
    refine Ex.pur (P_assign rfl) rfl ?_
    refine Ex.pur (P_assign rfl) rfl ?_
    refine Ex.nil ?_
    refine X.ret ?_
    refine RetQ.imp (Imp.freeze (k := 7) rfl) ?_
    refine RetQ.ret (.many (by decide) (.cons (.tmp rfl (LeV.eq ?_)) (.cons (.tmp rfl (LeV.eq ?_)) .nil)))
    all_goals (first | (simp [hc1]; done) | (rw [if_pos hc1, ← hfin]; rfl) | (rw [if_neg hc1]) | (rw [hc1]; rfl) | rfl)
end Go.Rse
