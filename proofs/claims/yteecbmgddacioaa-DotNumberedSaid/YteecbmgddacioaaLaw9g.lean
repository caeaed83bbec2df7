/-
  Walks: the statement that each dot has one or two meanings.
-/
import Derived.Test.YteecbmgddacioaaLaw9f
namespace Go.Rse
open Go Go.Proofs
set_option linter.unusedVariables false
set_option linter.unusedSimpArgs false
attribute [local irreducible] Pur StepA StepM Ex X ExG Fn Imp LeV LeB FnO It YStep
/-- A dot's meanings: one, which the rule takes, or two, ascending, of which the rule takes one. -/
def TwoOk (x : List Int) (c : Int) : Prop := (∃ a, x = [a] ∧ c = a) ∨ (∃ a b, x = [a, b] ∧ a < b ∧ (c = a ∨ c = b))
theorem choiceR_two {m : Mn} {l : List Sg} {i : Int} {p : Sg} (hM : ckM m = 0) (h1 : 1 ≤ p.Value) : TwoOk (mngR m p) (choiceR m l i p) := by
  have ha := aV_rng (m := m) h1
  unfold choiceR mngR
  by_cases hK : p.Kind = 2
  · simp only [hK, if_true]; exact .inl ⟨_, rfl, by simp⟩
  · simp only [hK, if_false]
    by_cases hC : p.Color = true
    · simp only [hC, if_true]; exact .inl ⟨0, rfl, by simp⟩
    · simp only [hC, if_false]
      by_cases h2 : m.p p.Value = 2 ∧ m.aV p.Value = 0
      · simp only [h2, and_self, if_true]; exact .inl ⟨0, rfl, by simp⟩
      · rw [if_neg h2]
        by_cases h3 : m.p p.Value = 2
        · have h4 : ¬ m.aV p.Value = 0 := fun h => h2 ⟨h3, h⟩
          rw [if_pos h3]
          refine .inr ⟨0, m.aV p.Value, rfl, by omega, ?_⟩
          rw [if_neg (by simp)]
          by_cases h5 : nextV l i > p.Value
          · rw [if_pos h5]; exact .inl (by simp [ownV])
          · rw [if_neg h5]; exact .inr rfl
        · rw [if_neg h3]
          by_cases h4 : m.aV p.Value = 0
          · rw [if_pos h4]; exact .inl ⟨p.Value, rfl, by simp⟩
          · rw [if_neg h4]
            refine .inr ⟨m.aV p.Value, p.Value, rfl, ha.2, ?_⟩
            rw [if_neg (by simp)]
            by_cases h5 : nextV l i > p.Value
            · rw [if_pos h5]
              have h6 : ¬ m.aV p.Value = p.Value := by omega
              exact .inr (by simp [ownV, h4, h6])
            · rw [if_neg h5]; exact .inl rfl
theorem two_all {m : Mn} {l : List Sg} (hM : ckM m = 0) (h : Gd l) {k : Nat} {x : List Int} {c : Int} (hx : (mnsD m l)[k]? = some x) (hc : (ruleD m l)[k]? = some c) : TwoOk x c := by
  have hck := gd_ck hM h
  rw [mnsD, List.getElem?_map] at hx
  rw [ruleD, List.getElem?_map] at hc
  cases hd : (dotsK l l.length)[k]? with
  | none => simp [hd] at hx
  | some i =>
    simp [hd] at hx hc
    obtain ⟨j, s, p, h1, h2, h3, h4, h5⟩ := dotPrev hck (List.mem_of_getElem? hd)
    obtain ⟨_, _, q1, q2, _, q3⟩ := prevOk hck h2 h3 h4
    unfold mnAt at hx; rw [h5] at hx
    unfold ruleAt at hc; rw [h5] at hc
    have hx : mngs m p = x := hx
    have hc : choice m l i p = c := hc
    rw [← hx, ← hc, choice_R hM q1 q2 q3, q3]
    exact choiceR_two hM q1
attribute [local irreducible] mnsD mdRun mMade ruleD
set_option maxHeartbeats 4000000 in
set_option maxRecDepth 100000 in
theorem C_tactuslaw09_DotTwo (n : Int) (l : List Int) (hn : -9223372036854775808 ≤ n ∧ n ≤ 9223372036854775807) (hr : ∀ x, x ∈ l → -9223372036854775808 ≤ x ∧ x ≤ 9223372036854775807) : Fn Try.prog 7 [iv n, intsA l] (.bool true) := by
  have hm : Fn Try.prog 22 [iv n] (mnA (mMade n)) := by unfold mMade; exact C_tactuskit_Mens n hn
  have hck := mMade_ck n
  generalize mMade n = m at hm hck
  have hg := mdRun_gd l
  have hlen := mdRun_len l
  have hM := C_dot_Meanings m (mdRun l) (by omega)
  have hR := C_dot_Rule m (mdRun l) (by omega)
  rw [gd_ck hck hg, if_pos rfl] at hM hR
  have hml := mnsD_len m (mdRun l)
  have hmd : (mnsD m (mdRun l)).length = (dotsK (mdRun l) (mdRun l).length).length := by simp [mnsD]
  have hrd : (ruleD m (mdRun l)).length = (dotsK (mdRun l) (mdRun l).length).length := by simp [ruleD]
  have hdd := dotsK_len (mdRun l) (mdRun l).length
  refine Fn.intro (ts := [(0, iv n), (1, intsA l)]) (rv := [.tmp 4]) (n := 119) (by kernel_rfl) Try.func7 rfl Try.ntmps7 rfl rfl rfl (by simp) (fun g w d => ?_)
  refine X.seq ?_
  refine X.region ?_
  refine Ex.pur (P_assign rfl) rfl ?_
  refine Ex.nil ?_
  refine X.seq ?_
  refine X.region ?_
  refine Ex.call rfl rfl rfl C_tactuslaw09_DotKnown rfl ?_
  refine Ex.pur (P_assign rfl) rfl ?_
  refine Ex.nil ?_
  refine X.seq ?_
  refine X.region ?_
  refine Ex.pur (P_move rfl) rfl ?_
  refine Ex.call rfl rfl rfl hm rfl ?_
  refine Ex.stepA (A_alloc (k := 6) zc23) rfl rfl ?_
  refine Ex.stepM (M_store_agg rfl rfl rfl rfl ty23 rfl (leB rfl)) ?_
  refine Ex.nil ?_
  refine X.seq ?_
  refine X.region ?_
  refine Ex.pur (P_move rfl) rfl ?_
  refine Ex.call rfl rfl rfl (C_tactuslaw09_Made l hr) rfl ?_
  refine Ex.pur (P_assign rfl) rfl ?_
  refine Ex.nil ?_
  refine X.seq ?_
  refine X.region ?_
  refine Ex.pur (P_assign rfl) rfl ?_
  refine Ex.nil ?_
  refine X.seq ?_
  refine X.seq ?_
  refine X.region ?_
  refine Ex.pur (P_assign rfl) rfl ?_
  refine Ex.nil ?_
  refine X.block ?_
  have hdk0 := dotsK_len (mdRun l)
  refine X.loop (ι := Nat) (fun (k : Nat) => ⟨[(5, .bool true), (6, .ptr 6 0 0 0), (7, sgsA (mdRun l)), (8, iv ((dotsK (mdRun l) k).length : Int)), (9, iv (k : Int))], [(6, .box (mnE m) 23)]⟩) (fun (k : Nat) => k ≤ (mdRun l).length) (fun (k : Nat) => (mdRun l).length - k) 0 ?_ ?_ (fun k hk => ?_)
  · exact Imp.of (by (repeat' (first | exact True.intro | (refine And.intro ⟨_, rfl, ?_⟩ ?_; (first | exact LeV.refl _ | exact LeV.any _ | exact LeB.refl _ | (refine LeV.eq ?_; simp; done) | (refine LeV.eq ?_; congr 1; omega) | (refine LeV.eq ?_; dsimp only; congr 1; omega) | (refine LeV.eq (congrArg (AV.int _) ?_); omega) | exact LeV.nils _ | exact LeB.row (by assumption) | (refine LeB.eq ?_; congr 1; omega) | (refine LeB.eq ?_; congr 1; simp only [cond_true, cond_false]; omega)))))) (by (repeat' (first | exact True.intro | (refine And.intro ⟨_, rfl, ?_⟩ ?_; (first | exact LeV.refl _ | exact LeV.any _ | exact LeB.refl _ | (refine LeV.eq ?_; simp; done) | (refine LeV.eq ?_; congr 1; omega) | (refine LeV.eq ?_; dsimp only; congr 1; omega) | (refine LeV.eq (congrArg (AV.int _) ?_); omega) | exact LeV.nils _ | exact LeB.row (by assumption) | (refine LeB.eq ?_; congr 1; omega) | (refine LeB.eq ?_; congr 1; simp only [cond_true, cond_false]; omega))))))
  · first | trivial | omega | (refine ⟨?_, ?_⟩ <;> omega)
  refine X.seq ?_
  refine X.seq ?_
  refine X.region ?_
  refine Ex.pur (P_move rfl) rfl ?_
  refine Ex.pur (P_move rfl) rfl ?_
  first
    | refine Ex.pur (P_len_sl rfl sl41) rfl ?_
    | refine Ex.pur (P_len_own rfl rfl sl41) rfl ?_
    | refine Ex.pur (P_len_nils rfl sl41) rfl ?_
  refine Ex.pur (P_lss rfl rfl) rfl ?_
  refine Ex.nil ?_
  refine X.cond rfl (fun hc1 => ?_) (fun hc1 => ?_)
  · try simp only [decide_eq_true_eq, decide_eq_false_iff_not, Bool.not_eq_true', Bool.not_eq_false', Bool.and_eq_true, Bool.or_eq_true, Bool.and_eq_false_iff, Bool.or_eq_false_iff, Int.not_lt, Int.not_le, Decidable.not_not] at hc1
    obtain ⟨s, hs⟩ : ∃ s, (mdRun l)[k]? = some s := ⟨_, List.getElem?_eq_getElem (by omega)⟩
    have hs2 : (mdRun l)[(k : Int).toNat]? = some s := by simpa using hs
    have hdk1 := hdk0 k
    refine X.skip ?_
    refine X.seq ?_
    refine X.block ?_
    refine X.seq ?_
    refine X.region ?_
    refine Ex.pur (P_move rfl) rfl ?_
    refine Ex.pur (P_move rfl) rfl ?_
    first
      | refine Ex.pur (P_index_sl rfl rfl sl41 ty64 (fun _ => rfl) (by omega) (by assumption)) rfl ?_
      | refine Ex.pur (P_index_own rfl rfl rfl sl41 ty64 (by omega) (by omega)) rfl ?_
    first
      | refine Ex.pur (P_fieldAddr_ptr rfl fo64_0) rfl ?_
      | refine Ex.pur (P_fieldAddr_ept rfl fo64_0) rfl ?_
    first
      | refine Ex.pur (P_load_box rfl rfl rfl ty3) rfl ?_
      | refine Ex.pur (P_load_ept rfl rfl rfl ty3) rfl ?_
      | refine Ex.pur (P_load_row rfl rfl (by assumption) rfl rfl ty3) rfl ?_
    refine Ex.pur (P_eql rfl rfl) rfl ?_
    refine Ex.nil ?_
    refine X.cond rfl (fun hc2 => ?_) (fun hc2 => ?_)
    · try simp only [decide_eq_true_eq, decide_eq_false_iff_not, Bool.not_eq_true', Bool.not_eq_false', Bool.and_eq_true, Bool.or_eq_true, Bool.and_eq_false_iff, Bool.or_eq_false_iff, Int.not_lt, Int.not_le, Decidable.not_not] at hc2
      have hdk : ((dotsK (mdRun l) k).length : Int) + 1 = ((dotsK (mdRun l) (k + 1)).length : Int) := by simp [dotsK, hs, hc2]
      refine X.region ?_
      refine Ex.pur (P_move rfl) rfl ?_
      refine Ex.pur (P_add rfl rfl (IntWalk.i64_in _ (by omega))) rfl ?_
      refine Ex.pur (P_assign rfl) rfl ?_
      refine Ex.nil ?_
      refine X.region ?_
      refine Ex.pur (P_move rfl) rfl ?_
      refine Ex.pur (P_add rfl rfl (IntWalk.i64_in _ (by omega))) rfl ?_
      refine Ex.pur (P_assign rfl) rfl ?_
      refine Ex.nil ?_
      refine ⟨k + 1, Imp.of (by (repeat' (first | exact True.intro | (refine And.intro ⟨_, rfl, ?_⟩ ?_; (first | exact LeV.refl _ | exact LeV.any _ | exact LeB.refl _ | (refine LeV.eq ?_; simp; done) | (refine LeV.eq ?_; congr 1; omega) | (refine LeV.eq ?_; dsimp only; congr 1; omega) | (refine LeV.eq (congrArg (AV.int _) ?_); omega) | exact LeV.nils _ | exact LeB.row (by assumption) | (refine LeB.eq ?_; congr 1; omega) | (refine LeB.eq ?_; congr 1; simp only [cond_true, cond_false]; omega)))))) (by (repeat' (first | exact True.intro | (refine And.intro ⟨_, rfl, ?_⟩ ?_; (first | exact LeV.refl _ | exact LeV.any _ | exact LeB.refl _ | (refine LeV.eq ?_; simp; done) | (refine LeV.eq ?_; congr 1; omega) | (refine LeV.eq ?_; dsimp only; congr 1; omega) | (refine LeV.eq (congrArg (AV.int _) ?_); omega) | exact LeV.nils _ | exact LeB.row (by assumption) | (refine LeB.eq ?_; congr 1; omega) | (refine LeB.eq ?_; congr 1; simp only [cond_true, cond_false]; omega)))))), ?_, ?_⟩
      · first | trivial | omega | (refine ⟨?_, ?_⟩ <;> omega)
      · omega
    · try simp only [decide_eq_true_eq, decide_eq_false_iff_not, Bool.not_eq_true', Bool.not_eq_false', Bool.and_eq_true, Bool.or_eq_true, Bool.and_eq_false_iff, Bool.or_eq_false_iff, Int.not_lt, Int.not_le, Decidable.not_not] at hc2
      have hdk : ((dotsK (mdRun l) k).length : Int) = ((dotsK (mdRun l) (k + 1)).length : Int) := by simp [dotsK, hs, hc2]
      refine X.skip ?_
      refine X.region ?_
      refine Ex.pur (P_move rfl) rfl ?_
      refine Ex.pur (P_add rfl rfl (IntWalk.i64_in _ (by omega))) rfl ?_
      refine Ex.pur (P_assign rfl) rfl ?_
      refine Ex.nil ?_
      refine ⟨k + 1, Imp.of (by (repeat' (first | exact True.intro | (refine And.intro ⟨_, rfl, ?_⟩ ?_; (first | exact LeV.refl _ | exact LeV.any _ | exact LeB.refl _ | (refine LeV.eq ?_; simp; done) | (refine LeV.eq ?_; congr 1; omega) | (refine LeV.eq ?_; dsimp only; congr 1; omega) | (refine LeV.eq (congrArg (AV.int _) ?_); omega) | exact LeV.nils _ | exact LeB.row (by assumption) | (refine LeB.eq ?_; congr 1; omega) | (refine LeB.eq ?_; congr 1; simp only [cond_true, cond_false]; omega)))))) (by (repeat' (first | exact True.intro | (refine And.intro ⟨_, rfl, ?_⟩ ?_; (first | exact LeV.refl _ | exact LeV.any _ | exact LeB.refl _ | (refine LeV.eq ?_; simp; done) | (refine LeV.eq ?_; congr 1; omega) | (refine LeV.eq ?_; dsimp only; congr 1; omega) | (refine LeV.eq (congrArg (AV.int _) ?_); omega) | exact LeV.nils _ | exact LeB.row (by assumption) | (refine LeB.eq ?_; congr 1; omega) | (refine LeB.eq ?_; congr 1; simp only [cond_true, cond_false]; omega)))))), ?_, ?_⟩
      · first | trivial | omega | (refine ⟨?_, ?_⟩ <;> omega)
      · omega
  · try simp only [decide_eq_true_eq, decide_eq_false_iff_not, Bool.not_eq_true', Bool.not_eq_false', Bool.and_eq_true, Bool.or_eq_true, Bool.and_eq_false_iff, Bool.or_eq_false_iff, Int.not_lt, Int.not_le, Decidable.not_not] at hc1
    have hkl : k = (mdRun l).length := by omega
    subst hkl
    refine X.exit ?_
    refine X.seq ?_
    refine X.region ?_
    first
      | refine Ex.pur (P_load_box_all rfl rfl rfl rfl ty23) rfl ?_
      | refine Ex.pur (P_load_ept_all rfl rfl rfl ty23) rfl ?_
      | refine Ex.pur (P_load_ept_part rfl rfl rfl rfl ty23) rfl ?_
      | refine Ex.pur (P_load_box_part rfl rfl rfl rfl ty23) rfl ?_
    refine Ex.pur (P_move rfl) rfl ?_
    refine Ex.call rfl rfl rfl hM rfl ?_
    refine Ex.pur (P_move rfl) rfl ?_
    refine Ex.pur (P_extract rfl rfl) rfl ?_
    refine Ex.pur (P_extract rfl rfl) rfl ?_
    refine Ex.pur (P_assign rfl) rfl ?_
    refine Ex.pur (P_assign rfl) rfl ?_
    refine Ex.nil ?_
    refine X.seq ?_
    refine X.region ?_
    first
      | refine Ex.pur (P_load_box_all rfl rfl rfl rfl ty23) rfl ?_
      | refine Ex.pur (P_load_ept_all rfl rfl rfl ty23) rfl ?_
      | refine Ex.pur (P_load_ept_part rfl rfl rfl rfl ty23) rfl ?_
      | refine Ex.pur (P_load_box_part rfl rfl rfl rfl ty23) rfl ?_
    refine Ex.pur (P_move rfl) rfl ?_
    refine Ex.call rfl rfl rfl hR rfl ?_
    refine Ex.pur (P_move rfl) rfl ?_
    refine Ex.pur (P_extract rfl rfl) rfl ?_
    refine Ex.pur (P_extract rfl rfl) rfl ?_
    refine Ex.pur (P_assign rfl) rfl ?_
    refine Ex.pur (P_assign rfl) rfl ?_
    refine Ex.nil ?_
    refine X.seq ?_
    refine X.seq ?_
    refine X.region ?_
    refine Ex.pur (P_move rfl) rfl ?_
    refine Ex.pur (P_neq rfl rfl) rfl ?_
    refine Ex.pur (P_move rfl) rfl ?_
    refine Ex.gstart (t := 48) false rfl ?_
    refine ExG.step rfl rfl rfl (fun hg => Pur.stepA (P_move rfl)) rfl ?_
    refine ExG.step rfl rfl rfl (fun hg => Pur.stepA (P_neq rfl rfl)) rfl ?_
    refine ExG.done ?_
    first
      | refine Ex.pur (P_and rfl rfl) rfl ?_
      | refine Ex.pur (P_or rfl rfl) rfl ?_
      | (refine Ex.pur (P_pick_true rfl ?_ rfl) rfl ?_; iterate 1 (· first | assumption | rfl | omega | (simp; done) | (simp; omega) | (simp_all; done)))
      | (refine Ex.pur (P_pick_false rfl ?_ rfl) rfl ?_; iterate 1 (· first | assumption | rfl | omega | (simp; done) | (simp; omega) | (simp_all; done)))
    refine Ex.pur (P_move rfl) rfl ?_
    refine Ex.gstart (t := 52) false rfl ?_
    refine ExG.step rfl rfl rfl (fun hg => Pur.stepA (P_move rfl)) rfl ?_
    first
      | refine ExG.step rfl rfl rfl (fun hg => Pur.stepA (P_len_sl rfl sl43)) rfl ?_
      | refine ExG.step rfl rfl rfl (fun hg => Pur.stepA (P_len_own rfl rfl sl43)) rfl ?_
      | refine ExG.step rfl rfl rfl (fun hg => Pur.stepA (P_len_nils rfl sl43)) rfl ?_
    refine ExG.step rfl rfl rfl (fun hg => Pur.stepA (P_move rfl)) rfl ?_
    refine ExG.step rfl rfl rfl (fun hg => Pur.stepA (P_neq rfl rfl)) rfl ?_
    refine ExG.done ?_
    first
      | refine Ex.pur (P_and rfl rfl) rfl ?_
      | refine Ex.pur (P_or rfl rfl) rfl ?_
      | (refine Ex.pur (P_pick_true rfl ?_ rfl) rfl ?_; iterate 1 (· first | assumption | rfl | omega | (simp; done) | (simp; omega) | (simp_all; done)))
      | (refine Ex.pur (P_pick_false rfl ?_ rfl) rfl ?_; iterate 1 (· first | assumption | rfl | omega | (simp; done) | (simp; omega) | (simp_all; done)))
    refine Ex.pur (P_move rfl) rfl ?_
    refine Ex.gstart (t := 58) false rfl ?_
    refine ExG.step rfl rfl rfl (fun hg => Pur.stepA (P_move rfl)) rfl ?_
    first
      | refine ExG.step rfl rfl rfl (fun hg => Pur.stepA (P_len_sl rfl sl29)) rfl ?_
      | refine ExG.step rfl rfl rfl (fun hg => Pur.stepA (P_len_own rfl rfl sl29)) rfl ?_
      | refine ExG.step rfl rfl rfl (fun hg => Pur.stepA (P_len_nils rfl sl29)) rfl ?_
    refine ExG.step rfl rfl rfl (fun hg => Pur.stepA (P_move rfl)) rfl ?_
    refine ExG.step rfl rfl rfl (fun hg => Pur.stepA (P_neq rfl rfl)) rfl ?_
    refine ExG.done ?_
    first
      | refine Ex.pur (P_and rfl rfl) rfl ?_
      | refine Ex.pur (P_or rfl rfl) rfl ?_
      | (refine Ex.pur (P_pick_true rfl ?_ rfl) rfl ?_; iterate 1 (· first | assumption | rfl | omega | (simp; done) | (simp; omega) | (simp_all; done)))
      | (refine Ex.pur (P_pick_false rfl ?_ rfl) rfl ?_; iterate 1 (· first | assumption | rfl | omega | (simp; done) | (simp; omega) | (simp_all; done)))
    refine Ex.nil ?_
    refine X.cond rfl (fun hc3 => ?_) (fun hc3 => ?_)
    · try simp only [decide_eq_true_eq, decide_eq_false_iff_not, Bool.not_eq_true', Bool.not_eq_false', Bool.and_eq_true, Bool.or_eq_true, Bool.and_eq_false_iff, Bool.or_eq_false_iff, Int.not_lt, Int.not_le, Decidable.not_not] at hc3
      (first | omega | (simp [hmd, hrd] at hc3; done) | (simp at hc3; omega))
    try simp only [decide_eq_true_eq, decide_eq_false_iff_not, Bool.not_eq_true', Bool.not_eq_false', Bool.and_eq_true, Bool.or_eq_true, Bool.and_eq_false_iff, Bool.or_eq_false_iff, Int.not_lt, Int.not_le, Decidable.not_not] at hc3
    refine X.skip ?_
    refine X.seq ?_
    refine X.seq ?_
    refine X.region ?_
    refine Ex.pur (P_assign rfl) rfl ?_
    refine Ex.nil ?_
    refine X.block ?_
    refine X.loop (ι := Nat) (fun (k : Nat) => ⟨[(5, .bool true), (8, iv ((dotsK (mdRun l) (mdRun l).length).length : Int)), (10, listsA (mnsD m (mdRun l))), (12, intsA (ruleD m (mdRun l))), (14, iv (k : Int))], []⟩) (fun (k : Nat) => k ≤ (dotsK (mdRun l) (mdRun l).length).length) (fun (k : Nat) => (dotsK (mdRun l) (mdRun l).length).length - k) 0 ?_ ?_ (fun k hk => ?_)
    · exact Imp.of (by (repeat' (first | exact True.intro | (refine And.intro ⟨_, rfl, ?_⟩ ?_; (first | exact LeV.refl _ | exact LeV.any _ | exact LeB.refl _ | (refine LeV.eq ?_; simp; done) | (refine LeV.eq ?_; congr 1; omega) | (refine LeV.eq ?_; dsimp only; congr 1; omega) | (refine LeV.eq (congrArg (AV.int _) ?_); omega) | exact LeV.nils _ | exact LeB.row (by assumption) | (refine LeB.eq ?_; congr 1; omega) | (refine LeB.eq ?_; congr 1; simp only [cond_true, cond_false]; omega)))))) (by (repeat' (first | exact True.intro | (refine And.intro ⟨_, rfl, ?_⟩ ?_; (first | exact LeV.refl _ | exact LeV.any _ | exact LeB.refl _ | (refine LeV.eq ?_; simp; done) | (refine LeV.eq ?_; congr 1; omega) | (refine LeV.eq ?_; dsimp only; congr 1; omega) | (refine LeV.eq (congrArg (AV.int _) ?_); omega) | exact LeV.nils _ | exact LeB.row (by assumption) | (refine LeB.eq ?_; congr 1; omega) | (refine LeB.eq ?_; congr 1; simp only [cond_true, cond_false]; omega))))))
    · first | trivial | omega | (refine ⟨?_, ?_⟩ <;> omega)
    refine X.seq ?_
    refine X.seq ?_
    refine X.region ?_
    refine Ex.pur (P_move rfl) rfl ?_
    refine Ex.pur (P_move rfl) rfl ?_
    refine Ex.pur (P_lss rfl rfl) rfl ?_
    refine Ex.nil ?_
    refine X.cond rfl (fun hc4 => ?_) (fun hc4 => ?_)
    · try simp only [decide_eq_true_eq, decide_eq_false_iff_not, Bool.not_eq_true', Bool.not_eq_false', Bool.and_eq_true, Bool.or_eq_true, Bool.and_eq_false_iff, Bool.or_eq_false_iff, Int.not_lt, Int.not_le, Decidable.not_not] at hc4
      obtain ⟨x, hx⟩ : ∃ x, (mnsD m (mdRun l))[k]? = some x := ⟨_, List.getElem?_eq_getElem (by omega)⟩
      have hx2 : (mnsD m (mdRun l))[(k : Int).toNat]? = some x := by simpa using hx
      obtain ⟨c, hc⟩ : ∃ c, (ruleD m (mdRun l))[k]? = some c := ⟨_, List.getElem?_eq_getElem (by omega)⟩
      have hc2 : (ruleD m (mdRun l))[(k : Int).toNat]? = some c := by simpa using hc
      have htw := two_all hck hg hx hc
      refine X.skip ?_
      refine X.seq ?_
      refine X.block ?_
      refine X.seq ?_
      rcases htw with ⟨a, rfl, rfl⟩ | ⟨a, b, rfl, hab, hcc⟩
      · have hH : Fn Try.prog 59 [intsA [c], iv c] (.bool true) := by
          have := C_tactuskit_Has [c] c (by simp); simpa using this
        have h0 : [c][(0 : Int).toNat]? = some c := rfl
        refine X.draw [69, 70, 71, 72, 73, 74, 75, 76, 77, 78, 79, 80, 81, 82, 83, 84, 85, 86, 87, 88, 89, 90, 91, 92, 93, 94, 95, 96, 97, 98, 99, 100, 101, 102, 103, 104, 105, 106, 107, 108, 109, 110, 111, 112, 113, 114, 115, 116, 117] mo rfl ?_
        refine Chain.step [] rfl rfl rfl (Pur.stepA (P_move rfl)) rfl ?_
        refine Chain.step [] rfl rfl rfl (Pur.stepA (P_move rfl)) rfl ?_
        first
          | refine Chain.step [1, 0] rfl rfl rfl (Pur.stepA (P_index_sl rfl rfl sl43 ty29 (fun _ => rfl) (by omega) (by assumption))) rfl ?_
          | refine Chain.step [1, 0] rfl rfl rfl (Pur.stepA (P_index_own rfl rfl rfl sl43 ty29 (by omega) (by omega))) rfl ?_
        first
          | refine Chain.step [1, 0, 2] rfl rfl rfl (Pur.stepA (P_load_box rfl rfl rfl ty29)) rfl ?_
          | refine Chain.step [1, 0, 2] rfl rfl rfl (Pur.stepA (P_load_ept rfl rfl rfl ty29)) rfl ?_
          | refine Chain.step [1, 0, 2] rfl rfl rfl (Pur.stepA (P_load_row rfl rfl (by assumption) rfl rfl ty29)) rfl ?_
        first
          | refine Chain.step [1, 0, 2, 3] rfl rfl rfl (Pur.stepA (P_len_sl rfl sl29)) rfl ?_
          | refine Chain.step [1, 0, 2, 3] rfl rfl rfl (Pur.stepA (P_len_own rfl rfl sl29)) rfl ?_
          | refine Chain.step [1, 0, 2, 3] rfl rfl rfl (Pur.stepA (P_len_nils rfl sl29)) rfl ?_
        refine Chain.step [1, 0, 2, 3, 4] rfl rfl rfl (Pur.stepA (P_lss rfl rfl)) rfl ?_
        refine Chain.step [1, 0, 2, 3, 4, 5] rfl rfl rfl (Pur.stepA (P_move rfl)) rfl ?_
        (refine Chain.gT [1, 0, 2, 3, 4, 5, 6] rfl rfl rfl rfl rfl ?_ (Pur.stepA (P_move rfl)) rfl ?_; iterate 1 (· first | assumption | rfl | omega | (simp; done) | (simp; omega) | (simp_all; done)))
        (refine Chain.gT [1, 0, 2, 3, 4, 5, 6] rfl rfl rfl rfl rfl ?_ (Pur.stepA (P_move rfl)) rfl ?_; iterate 1 (· first | assumption | rfl | omega | (simp; done) | (simp; omega) | (simp_all; done)))
        first
          | (refine Chain.gT [1, 0, 2, 3, 4, 5, 6, 8, 7] rfl rfl rfl rfl rfl ?_ (Pur.stepA (P_index_sl rfl rfl sl43 ty29 (fun _ => rfl) (by omega) (by assumption))) rfl ?_; iterate 1 (· first | assumption | rfl | omega | (simp; done) | (simp; omega) | (simp_all; done)))
          | (refine Chain.gT [1, 0, 2, 3, 4, 5, 6, 8, 7] rfl rfl rfl rfl rfl ?_ (Pur.stepA (P_index_own rfl rfl rfl sl43 ty29 (by omega) (by omega))) rfl ?_; iterate 1 (· first | assumption | rfl | omega | (simp; done) | (simp; omega) | (simp_all; done)))
        first
          | (refine Chain.gT [1, 0, 2, 3, 4, 5, 8, 7, 6, 9] rfl rfl rfl rfl rfl ?_ (Pur.stepA (P_load_box rfl rfl rfl ty29)) rfl ?_; iterate 1 (· first | assumption | rfl | omega | (simp; done) | (simp; omega) | (simp_all; done)))
          | (refine Chain.gT [1, 0, 2, 3, 4, 5, 8, 7, 6, 9] rfl rfl rfl rfl rfl ?_ (Pur.stepA (P_load_ept rfl rfl rfl ty29)) rfl ?_; iterate 1 (· first | assumption | rfl | omega | (simp; done) | (simp; omega) | (simp_all; done)))
          | (refine Chain.gT [1, 0, 2, 3, 4, 5, 8, 7, 6, 9] rfl rfl rfl rfl rfl ?_ (Pur.stepA (P_load_row rfl rfl (by assumption) rfl rfl ty29)) rfl ?_; iterate 1 (· first | assumption | rfl | omega | (simp; done) | (simp; omega) | (simp_all; done)))
        first
          | (refine Chain.gT [1, 0, 2, 3, 4, 8, 7, 5, 9, 6, 10] rfl rfl rfl rfl rfl ?_ (Pur.stepA (P_len_sl rfl sl29)) rfl ?_; iterate 1 (· first | assumption | rfl | omega | (simp; done) | (simp; omega) | (simp_all; done)))
          | (refine Chain.gT [1, 0, 2, 3, 4, 8, 7, 5, 9, 6, 10] rfl rfl rfl rfl rfl ?_ (Pur.stepA (P_len_own rfl rfl sl29)) rfl ?_; iterate 1 (· first | assumption | rfl | omega | (simp; done) | (simp; omega) | (simp_all; done)))
          | (refine Chain.gT [1, 0, 2, 3, 4, 8, 7, 5, 9, 6, 10] rfl rfl rfl rfl rfl ?_ (Pur.stepA (P_len_nils rfl sl29)) rfl ?_; iterate 1 (· first | assumption | rfl | omega | (simp; done) | (simp; omega) | (simp_all; done)))
        (refine Chain.gT [1, 0, 2, 3, 8, 7, 4, 9, 5, 10, 6, 11] rfl rfl rfl rfl rfl ?_ (Pur.stepA (P_gtr rfl rfl)) rfl ?_; iterate 1 (· first | assumption | rfl | omega | (simp; done) | (simp; omega) | (simp_all; done)))
        (refine Chain.step [1, 0, 8, 7, 2, 9, 3, 10, 4, 11, 5, 12, 6] rfl rfl rfl (Pur.stepA (P_pick_false rfl ?_ rfl)) rfl ?_; iterate 1 (· first | assumption | rfl | omega | (simp; done) | (simp; omega) | (simp_all; done)))
        refine Chain.step [1, 0, 8, 7, 2, 9, 3, 10, 4, 11, 5, 12, 6, 13] rfl rfl rfl (Pur.stepA (P_move rfl)) rfl ?_
        (refine Chain.gT [1, 0, 8, 7, 2, 9, 3, 10, 4, 11, 5, 12, 6, 13, 14] rfl rfl rfl rfl rfl ?_ (Pur.stepA (P_move rfl)) rfl ?_; iterate 1 (· first | assumption | rfl | omega | (simp; done) | (simp; omega) | (simp_all; done)))
        (refine Chain.gT [1, 0, 8, 7, 2, 9, 3, 10, 4, 11, 5, 12, 6, 13, 14] rfl rfl rfl rfl rfl ?_ (Pur.stepA (P_move rfl)) rfl ?_; iterate 1 (· first | assumption | rfl | omega | (simp; done) | (simp; omega) | (simp_all; done)))
        first
          | (refine Chain.gT [1, 0, 8, 7, 2, 9, 3, 10, 4, 11, 5, 12, 6, 13, 14, 16, 15] rfl rfl rfl rfl rfl ?_ (Pur.stepA (P_index_sl rfl rfl sl43 ty29 (fun _ => rfl) (by omega) (by assumption))) rfl ?_; iterate 1 (· first | assumption | rfl | omega | (simp; done) | (simp; omega) | (simp_all; done)))
          | (refine Chain.gT [1, 0, 8, 7, 2, 9, 3, 10, 4, 11, 5, 12, 6, 13, 14, 16, 15] rfl rfl rfl rfl rfl ?_ (Pur.stepA (P_index_own rfl rfl rfl sl43 ty29 (by omega) (by omega))) rfl ?_; iterate 1 (· first | assumption | rfl | omega | (simp; done) | (simp; omega) | (simp_all; done)))
        first
          | (refine Chain.gT [1, 0, 8, 7, 2, 9, 3, 10, 4, 11, 5, 12, 6, 13, 16, 15, 14, 17] rfl rfl rfl rfl rfl ?_ (Pur.stepA (P_load_box rfl rfl rfl ty29)) rfl ?_; iterate 1 (· first | assumption | rfl | omega | (simp; done) | (simp; omega) | (simp_all; done)))
          | (refine Chain.gT [1, 0, 8, 7, 2, 9, 3, 10, 4, 11, 5, 12, 6, 13, 16, 15, 14, 17] rfl rfl rfl rfl rfl ?_ (Pur.stepA (P_load_ept rfl rfl rfl ty29)) rfl ?_; iterate 1 (· first | assumption | rfl | omega | (simp; done) | (simp; omega) | (simp_all; done)))
          | (refine Chain.gT [1, 0, 8, 7, 2, 9, 3, 10, 4, 11, 5, 12, 6, 13, 16, 15, 14, 17] rfl rfl rfl rfl rfl ?_ (Pur.stepA (P_load_row rfl rfl (by assumption) rfl rfl ty29)) rfl ?_; iterate 1 (· first | assumption | rfl | omega | (simp; done) | (simp; omega) | (simp_all; done)))
        (refine Chain.gT [1, 0, 8, 7, 2, 9, 3, 10, 4, 11, 5, 12, 6, 13, 14] rfl rfl rfl rfl rfl ?_ (Pur.stepA (P_move rfl)) rfl ?_; iterate 1 (· first | assumption | rfl | omega | (simp; done) | (simp; omega) | (simp_all; done)))
        (refine Chain.gT [1, 0, 8, 7, 2, 9, 3, 10, 4, 11, 5, 12, 6, 13, 14] rfl rfl rfl rfl rfl ?_ (Pur.stepA (P_move rfl)) rfl ?_; iterate 1 (· first | assumption | rfl | omega | (simp; done) | (simp; omega) | (simp_all; done)))
        first
          | (refine Chain.gT [1, 0, 8, 7, 2, 9, 3, 10, 4, 11, 5, 12, 6, 13, 14, 20, 19] rfl rfl rfl rfl rfl ?_ (Pur.stepA (P_index_sl rfl rfl sl29 ty3 (fun _ => rfl) (by omega) (by assumption))) rfl ?_; iterate 1 (· first | assumption | rfl | omega | (simp; done) | (simp; omega) | (simp_all; done)))
          | (refine Chain.gT [1, 0, 8, 7, 2, 9, 3, 10, 4, 11, 5, 12, 6, 13, 14, 20, 19] rfl rfl rfl rfl rfl ?_ (Pur.stepA (P_index_own rfl rfl rfl sl29 ty3 (by omega) (by omega))) rfl ?_; iterate 1 (· first | assumption | rfl | omega | (simp; done) | (simp; omega) | (simp_all; done)))
        first
          | (refine Chain.gT [1, 0, 8, 7, 2, 9, 3, 10, 4, 11, 5, 12, 6, 13, 20, 19, 14, 21] rfl rfl rfl rfl rfl ?_ (Pur.stepA (P_load_box rfl rfl rfl ty3)) rfl ?_; iterate 1 (· first | assumption | rfl | omega | (simp; done) | (simp; omega) | (simp_all; done)))
          | (refine Chain.gT [1, 0, 8, 7, 2, 9, 3, 10, 4, 11, 5, 12, 6, 13, 20, 19, 14, 21] rfl rfl rfl rfl rfl ?_ (Pur.stepA (P_load_ept rfl rfl rfl ty3)) rfl ?_; iterate 1 (· first | assumption | rfl | omega | (simp; done) | (simp; omega) | (simp_all; done)))
          | (refine Chain.gT [1, 0, 8, 7, 2, 9, 3, 10, 4, 11, 5, 12, 6, 13, 20, 19, 14, 21] rfl rfl rfl rfl rfl ?_ (Pur.stepA (P_load_row rfl rfl (by assumption) rfl rfl ty3)) rfl ?_; iterate 1 (· first | assumption | rfl | omega | (simp; done) | (simp; omega) | (simp_all; done)))
        (refine Chain.gT [1, 0, 8, 7, 2, 9, 3, 10, 4, 11, 5, 12, 20, 19, 16, 15, 6, 13, 21, 17, 14, 22, 18] rfl rfl rfl rfl rfl ?_ (A_call rfl rfl rfl (LeL.refl _) hH) rfl ?_; iterate 1 (· first | assumption | rfl | omega | (simp; done) | (simp; omega) | (simp_all; done)))
        (refine Chain.gT [1, 0, 8, 7, 2, 9, 3, 10, 4, 11, 20, 19, 16, 15, 5, 12, 21, 17, 6, 13, 22, 18, 14, 23] rfl rfl rfl rfl rfl ?_ (Pur.stepA (P_not rfl)) rfl ?_; iterate 1 (· first | assumption | rfl | omega | (simp; done) | (simp; omega) | (simp_all; done)))
        (refine Chain.step [1, 0, 8, 7, 2, 9, 20, 19, 16, 15, 3, 10, 21, 17, 4, 11, 22, 18, 5, 12, 23, 6, 13, 24, 14] rfl rfl rfl (Pur.stepA (P_pick_false rfl ?_ rfl)) rfl ?_; iterate 1 (· first | assumption | rfl | omega | (simp; done) | (simp; omega) | (simp_all; done)))
        refine Chain.step [1, 0, 8, 7, 2, 9, 3, 10, 4, 11, 20, 19, 16, 15, 5, 12, 21, 17, 6, 13, 22, 18, 24, 14, 23, 25] rfl rfl rfl (Pur.stepA (P_move rfl)) rfl ?_
        (refine Chain.gT [1, 0, 8, 7, 2, 9, 3, 10, 4, 11, 20, 19, 16, 15, 5, 12, 21, 17, 6, 13, 22, 18, 24, 14, 23, 25, 26] rfl rfl rfl rfl rfl ?_ (Pur.stepA (P_move rfl)) rfl ?_; iterate 1 (· first | assumption | rfl | omega | (simp; done) | (simp; omega) | (simp_all; done)))
        (refine Chain.gT [1, 0, 8, 7, 2, 9, 3, 10, 4, 11, 20, 19, 16, 15, 5, 12, 21, 17, 6, 13, 22, 18, 24, 14, 23, 25, 26] rfl rfl rfl rfl rfl ?_ (Pur.stepA (P_move rfl)) rfl ?_; iterate 1 (· first | assumption | rfl | omega | (simp; done) | (simp; omega) | (simp_all; done)))
        first
          | (refine Chain.gT [1, 0, 8, 7, 2, 9, 3, 10, 4, 11, 20, 19, 16, 15, 5, 12, 21, 17, 6, 13, 22, 18, 24, 14, 23, 25, 26, 28, 27] rfl rfl rfl rfl rfl ?_ (Pur.stepA (P_index_sl rfl rfl sl43 ty29 (fun _ => rfl) (by omega) (by assumption))) rfl ?_; iterate 1 (· first | assumption | rfl | omega | (simp; done) | (simp; omega) | (simp_all; done)))
          | (refine Chain.gT [1, 0, 8, 7, 2, 9, 3, 10, 4, 11, 20, 19, 16, 15, 5, 12, 21, 17, 6, 13, 22, 18, 24, 14, 23, 25, 26, 28, 27] rfl rfl rfl rfl rfl ?_ (Pur.stepA (P_index_own rfl rfl rfl sl43 ty29 (by omega) (by omega))) rfl ?_; iterate 1 (· first | assumption | rfl | omega | (simp; done) | (simp; omega) | (simp_all; done)))
        first
          | (refine Chain.gT [1, 0, 8, 7, 2, 9, 3, 10, 4, 11, 20, 19, 16, 15, 5, 12, 21, 17, 6, 13, 22, 18, 24, 14, 23, 25, 28, 27, 26, 29] rfl rfl rfl rfl rfl ?_ (Pur.stepA (P_load_box rfl rfl rfl ty29)) rfl ?_; iterate 1 (· first | assumption | rfl | omega | (simp; done) | (simp; omega) | (simp_all; done)))
          | (refine Chain.gT [1, 0, 8, 7, 2, 9, 3, 10, 4, 11, 20, 19, 16, 15, 5, 12, 21, 17, 6, 13, 22, 18, 24, 14, 23, 25, 28, 27, 26, 29] rfl rfl rfl rfl rfl ?_ (Pur.stepA (P_load_ept rfl rfl rfl ty29)) rfl ?_; iterate 1 (· first | assumption | rfl | omega | (simp; done) | (simp; omega) | (simp_all; done)))
          | (refine Chain.gT [1, 0, 8, 7, 2, 9, 3, 10, 4, 11, 20, 19, 16, 15, 5, 12, 21, 17, 6, 13, 22, 18, 24, 14, 23, 25, 28, 27, 26, 29] rfl rfl rfl rfl rfl ?_ (Pur.stepA (P_load_row rfl rfl (by assumption) rfl rfl ty29)) rfl ?_; iterate 1 (· first | assumption | rfl | omega | (simp; done) | (simp; omega) | (simp_all; done)))
        first
          | (refine Chain.gT [1, 0, 8, 7, 2, 9, 3, 10, 4, 11, 20, 19, 16, 15, 5, 12, 21, 17, 6, 13, 22, 18, 24, 14, 28, 27, 23, 25, 29, 26, 30] rfl rfl rfl rfl rfl ?_ (Pur.stepA (P_len_sl rfl sl29)) rfl ?_; iterate 1 (· first | assumption | rfl | omega | (simp; done) | (simp; omega) | (simp_all; done)))
          | (refine Chain.gT [1, 0, 8, 7, 2, 9, 3, 10, 4, 11, 20, 19, 16, 15, 5, 12, 21, 17, 6, 13, 22, 18, 24, 14, 28, 27, 23, 25, 29, 26, 30] rfl rfl rfl rfl rfl ?_ (Pur.stepA (P_len_own rfl rfl sl29)) rfl ?_; iterate 1 (· first | assumption | rfl | omega | (simp; done) | (simp; omega) | (simp_all; done)))
          | (refine Chain.gT [1, 0, 8, 7, 2, 9, 3, 10, 4, 11, 20, 19, 16, 15, 5, 12, 21, 17, 6, 13, 22, 18, 24, 14, 28, 27, 23, 25, 29, 26, 30] rfl rfl rfl rfl rfl ?_ (Pur.stepA (P_len_nils rfl sl29)) rfl ?_; iterate 1 (· first | assumption | rfl | omega | (simp; done) | (simp; omega) | (simp_all; done)))
        (refine Chain.gT [1, 0, 8, 7, 2, 9, 3, 10, 4, 11, 20, 19, 16, 15, 5, 12, 21, 17, 6, 13, 28, 27, 22, 18, 24, 14, 29, 23, 25, 30, 26, 31] rfl rfl rfl rfl rfl ?_ (Pur.stepA (P_eql rfl rfl)) rfl ?_; iterate 1 (· first | assumption | rfl | omega | (simp; done) | (simp; omega) | (simp_all; done)))
        (refine Chain.gT [1, 0, 8, 7, 2, 9, 3, 10, 4, 11, 20, 19, 16, 15, 5, 12, 28, 27, 21, 17, 6, 13, 29, 22, 18, 24, 14, 30, 23, 25, 31, 26, 32] rfl rfl rfl rfl rfl ?_ (Pur.stepA (P_move rfl)) rfl ?_; iterate 1 (· first | assumption | rfl | omega | (simp; done) | (simp; omega) | (simp_all; done)))
        (refine Chain.gF [1, 0, 8, 7, 2, 9, 3, 10, 4, 11, 20, 19, 16, 15, 5, 12, 28, 27, 21, 17, 6, 13, 29, 22, 18, 24, 14, 30, 23, 25, 31, 26, 32, 33] rfl rfl rfl rfl rfl ?_ rfl ?_; iterate 1 (· first | assumption | rfl | omega | (simp; done) | (simp; omega) | (simp_all; done)))
        (refine Chain.gF [1, 0, 8, 7, 2, 9, 3, 10, 4, 11, 20, 19, 16, 15, 5, 12, 28, 27, 21, 17, 6, 13, 29, 22, 18, 24, 14, 30, 23, 25, 31, 26, 32, 33] rfl rfl rfl rfl rfl ?_ rfl ?_; iterate 1 (· first | assumption | rfl | omega | (simp; done) | (simp; omega) | (simp_all; done)))
        (refine Chain.gF [1, 0, 8, 7, 2, 9, 3, 10, 4, 11, 20, 19, 16, 15, 5, 12, 28, 27, 21, 17, 6, 13, 29, 22, 18, 24, 14, 30, 23, 25, 31, 26, 32, 33, 35, 34] rfl rfl rfl rfl rfl ?_ rfl ?_; iterate 1 (· first | assumption | rfl | omega | (simp; done) | (simp; omega) | (simp_all; done)))
        (refine Chain.gF [1, 0, 8, 7, 2, 9, 3, 10, 4, 11, 20, 19, 16, 15, 5, 12, 28, 27, 21, 17, 6, 13, 29, 22, 18, 24, 14, 30, 23, 25, 31, 26, 32, 35, 34, 33, 36] rfl rfl rfl rfl rfl ?_ rfl ?_; iterate 1 (· first | assumption | rfl | omega | (simp; done) | (simp; omega) | (simp_all; done)))
        (refine Chain.gF [1, 0, 8, 7, 2, 9, 3, 10, 4, 11, 20, 19, 16, 15, 5, 12, 28, 27, 21, 17, 6, 13, 29, 22, 18, 24, 14, 30, 23, 25, 31, 35, 34, 26, 32, 36, 33, 37] rfl rfl rfl rfl rfl ?_ rfl ?_; iterate 1 (· first | assumption | rfl | omega | (simp; done) | (simp; omega) | (simp_all; done)))
        (refine Chain.gF [1, 0, 8, 7, 2, 9, 3, 10, 4, 11, 20, 19, 16, 15, 5, 12, 28, 27, 21, 17, 6, 13, 29, 22, 18, 24, 14, 30, 35, 34, 23, 25, 31, 36, 26, 32, 37, 33, 38] rfl rfl rfl rfl rfl ?_ rfl ?_; iterate 1 (· first | assumption | rfl | omega | (simp; done) | (simp; omega) | (simp_all; done)))
        (refine Chain.gF [1, 0, 8, 7, 2, 9, 3, 10, 4, 11, 20, 19, 16, 15, 5, 12, 28, 27, 21, 17, 6, 13, 29, 22, 18, 24, 14, 30, 23, 25, 31, 26, 32, 33] rfl rfl rfl rfl rfl ?_ rfl ?_; iterate 1 (· first | assumption | rfl | omega | (simp; done) | (simp; omega) | (simp_all; done)))
        (refine Chain.gF [1, 0, 8, 7, 2, 9, 3, 10, 4, 11, 20, 19, 16, 15, 5, 12, 28, 27, 21, 17, 6, 13, 29, 22, 18, 24, 14, 30, 23, 25, 31, 26, 32, 33] rfl rfl rfl rfl rfl ?_ rfl ?_; iterate 1 (· first | assumption | rfl | omega | (simp; done) | (simp; omega) | (simp_all; done)))
        (refine Chain.gF [1, 0, 8, 7, 2, 9, 3, 10, 4, 11, 20, 19, 16, 15, 5, 12, 28, 27, 21, 17, 6, 13, 29, 22, 18, 24, 14, 30, 23, 25, 31, 26, 32, 33, 41, 40] rfl rfl rfl rfl rfl ?_ rfl ?_; iterate 1 (· first | assumption | rfl | omega | (simp; done) | (simp; omega) | (simp_all; done)))
        (refine Chain.gF [1, 0, 8, 7, 2, 9, 3, 10, 4, 11, 20, 19, 16, 15, 5, 12, 28, 27, 21, 17, 6, 13, 29, 22, 18, 24, 14, 30, 23, 25, 31, 26, 32, 41, 40, 33, 42] rfl rfl rfl rfl rfl ?_ rfl ?_; iterate 1 (· first | assumption | rfl | omega | (simp; done) | (simp; omega) | (simp_all; done)))
        (refine Chain.gF [1, 0, 8, 7, 2, 9, 3, 10, 4, 11, 20, 19, 16, 15, 5, 12, 28, 27, 21, 17, 6, 13, 29, 22, 18, 24, 14, 30, 23, 25, 31, 41, 40, 26, 32, 42, 33, 43] rfl rfl rfl rfl rfl ?_ rfl ?_; iterate 1 (· first | assumption | rfl | omega | (simp; done) | (simp; omega) | (simp_all; done)))
        (refine Chain.gF [1, 0, 8, 7, 2, 9, 3, 10, 4, 11, 20, 19, 16, 15, 5, 12, 28, 27, 21, 17, 6, 13, 29, 22, 18, 24, 14, 30, 41, 40, 23, 25, 31, 42, 26, 32, 43, 33, 44] rfl rfl rfl rfl rfl ?_ rfl ?_; iterate 1 (· first | assumption | rfl | omega | (simp; done) | (simp; omega) | (simp_all; done)))
        (refine Chain.gF [1, 0, 8, 7, 2, 9, 3, 10, 4, 11, 20, 19, 16, 15, 5, 12, 28, 27, 21, 17, 6, 13, 29, 41, 40, 35, 34, 22, 18, 24, 14, 30, 42, 36, 23, 25, 31, 43, 37, 26, 32, 44, 38, 33, 45, 39] rfl rfl rfl rfl rfl ?_ rfl ?_; iterate 1 (· first | assumption | rfl | omega | (simp; done) | (simp; omega) | (simp_all; done)))
        (refine Chain.gT [1, 0, 8, 7, 2, 9, 3, 10, 4, 11, 41, 40, 35, 34, 28, 27, 20, 19, 16, 15, 5, 12, 42, 36, 29, 21, 17, 6, 13, 43, 37, 30, 22, 18, 24, 14, 44, 38, 31, 23, 25, 45, 39, 32, 26, 46, 33] rfl rfl rfl rfl rfl ?_ (Pur.stepA (P_pick_false rfl ?_ rfl)) rfl ?_; iterate 2 (· first | assumption | rfl | omega | (simp; done) | (simp; omega) | (simp_all; done)))
        (refine Chain.step [1, 0, 8, 7, 2, 9, 41, 40, 35, 34, 28, 27, 3, 10, 42, 36, 29, 4, 11, 43, 37, 30, 20, 19, 16, 15, 5, 12, 44, 38, 31, 21, 17, 6, 13, 45, 39, 32, 22, 18, 24, 14, 46, 33, 23, 25, 47, 26] rfl rfl rfl (Pur.stepA (P_pick_false rfl ?_ rfl)) rfl ?_; iterate 1 (· first | assumption | rfl | omega | (simp; done) | (simp; omega) | (simp_all; done)))
        refine Chain.tail [] rfl rfl ?_
        refine Ex.nil ?_
        refine X.cond rfl (fun hc5 => ?_) (fun hc5 => ?_)
        · try simp only [decide_eq_true_eq, decide_eq_false_iff_not, Bool.not_eq_true', Bool.not_eq_false', Bool.and_eq_true, Bool.or_eq_true, Bool.and_eq_false_iff, Bool.or_eq_false_iff, Int.not_lt, Int.not_le, Decidable.not_not] at hc5
          (first | (simp at hc5; done) | omega | (simp at hc5; omega))
        try simp only [decide_eq_true_eq, decide_eq_false_iff_not, Bool.not_eq_true', Bool.not_eq_false', Bool.and_eq_true, Bool.or_eq_true, Bool.and_eq_false_iff, Bool.or_eq_false_iff, Int.not_lt, Int.not_le, Decidable.not_not] at hc5
        refine X.skip ?_
        refine X.region ?_
        refine Ex.pur (P_move rfl) rfl ?_
        refine Ex.pur (P_add rfl rfl (IntWalk.i64_in _ (by omega))) rfl ?_
        refine Ex.pur (P_assign rfl) rfl ?_
        refine Ex.nil ?_
        refine ⟨k + 1, Imp.of (by (repeat' (first | exact True.intro | (refine And.intro ⟨_, rfl, ?_⟩ ?_; (first | exact LeV.refl _ | exact LeV.any _ | exact LeB.refl _ | (refine LeV.eq ?_; simp; done) | (refine LeV.eq ?_; congr 1; omega) | (refine LeV.eq ?_; dsimp only; congr 1; omega) | (refine LeV.eq (congrArg (AV.int _) ?_); omega) | exact LeV.nils _ | exact LeB.row (by assumption) | (refine LeB.eq ?_; congr 1; omega) | (refine LeB.eq ?_; congr 1; simp only [cond_true, cond_false]; omega)))))) (by (repeat' (first | exact True.intro | (refine And.intro ⟨_, rfl, ?_⟩ ?_; (first | exact LeV.refl _ | exact LeV.any _ | exact LeB.refl _ | (refine LeV.eq ?_; simp; done) | (refine LeV.eq ?_; congr 1; omega) | (refine LeV.eq ?_; dsimp only; congr 1; omega) | (refine LeV.eq (congrArg (AV.int _) ?_); omega) | exact LeV.nils _ | exact LeB.row (by assumption) | (refine LeB.eq ?_; congr 1; omega) | (refine LeB.eq ?_; congr 1; simp only [cond_true, cond_false]; omega)))))), ?_, ?_⟩
        · first | trivial | omega | (refine ⟨?_, ?_⟩ <;> omega)
        · omega
      · have hH : Fn Try.prog 59 [intsA [a, b], iv c] (.bool true) := by
          have := C_tactuskit_Has [a, b] c (by simp)
          rcases hcc with rfl | rfl <;> simpa using this
        have h0 : [a, b][(0 : Int).toNat]? = some a := rfl
        have h1 : [a, b][(1 : Int).toNat]? = some b := rfl
        refine X.draw [69, 70, 71, 72, 73, 74, 75, 76, 77, 78, 79, 80, 81, 82, 83, 84, 85, 86, 87, 88, 89, 90, 91, 92, 93, 94, 95, 96, 97, 98, 99, 100, 101, 102, 103, 104, 105, 106, 107, 108, 109, 110, 111, 112, 113, 114, 115, 116, 117] mo rfl ?_
        refine Chain.step [] rfl rfl rfl (Pur.stepA (P_move rfl)) rfl ?_
        refine Chain.step [] rfl rfl rfl (Pur.stepA (P_move rfl)) rfl ?_
        first
          | refine Chain.step [1, 0] rfl rfl rfl (Pur.stepA (P_index_sl rfl rfl sl43 ty29 (fun _ => rfl) (by omega) (by assumption))) rfl ?_
          | refine Chain.step [1, 0] rfl rfl rfl (Pur.stepA (P_index_own rfl rfl rfl sl43 ty29 (by omega) (by omega))) rfl ?_
        first
          | refine Chain.step [1, 0, 2] rfl rfl rfl (Pur.stepA (P_load_box rfl rfl rfl ty29)) rfl ?_
          | refine Chain.step [1, 0, 2] rfl rfl rfl (Pur.stepA (P_load_ept rfl rfl rfl ty29)) rfl ?_
          | refine Chain.step [1, 0, 2] rfl rfl rfl (Pur.stepA (P_load_row rfl rfl (by assumption) rfl rfl ty29)) rfl ?_
        first
          | refine Chain.step [1, 0, 2, 3] rfl rfl rfl (Pur.stepA (P_len_sl rfl sl29)) rfl ?_
          | refine Chain.step [1, 0, 2, 3] rfl rfl rfl (Pur.stepA (P_len_own rfl rfl sl29)) rfl ?_
          | refine Chain.step [1, 0, 2, 3] rfl rfl rfl (Pur.stepA (P_len_nils rfl sl29)) rfl ?_
        refine Chain.step [1, 0, 2, 3, 4] rfl rfl rfl (Pur.stepA (P_lss rfl rfl)) rfl ?_
        refine Chain.step [1, 0, 2, 3, 4, 5] rfl rfl rfl (Pur.stepA (P_move rfl)) rfl ?_
        (refine Chain.gT [1, 0, 2, 3, 4, 5, 6] rfl rfl rfl rfl rfl ?_ (Pur.stepA (P_move rfl)) rfl ?_; iterate 1 (· first | assumption | rfl | omega | (simp; done) | (simp; omega) | (simp_all; done)))
        (refine Chain.gT [1, 0, 2, 3, 4, 5, 6] rfl rfl rfl rfl rfl ?_ (Pur.stepA (P_move rfl)) rfl ?_; iterate 1 (· first | assumption | rfl | omega | (simp; done) | (simp; omega) | (simp_all; done)))
        first
          | (refine Chain.gT [1, 0, 2, 3, 4, 5, 6, 8, 7] rfl rfl rfl rfl rfl ?_ (Pur.stepA (P_index_sl rfl rfl sl43 ty29 (fun _ => rfl) (by omega) (by assumption))) rfl ?_; iterate 1 (· first | assumption | rfl | omega | (simp; done) | (simp; omega) | (simp_all; done)))
          | (refine Chain.gT [1, 0, 2, 3, 4, 5, 6, 8, 7] rfl rfl rfl rfl rfl ?_ (Pur.stepA (P_index_own rfl rfl rfl sl43 ty29 (by omega) (by omega))) rfl ?_; iterate 1 (· first | assumption | rfl | omega | (simp; done) | (simp; omega) | (simp_all; done)))
        first
          | (refine Chain.gT [1, 0, 2, 3, 4, 5, 8, 7, 6, 9] rfl rfl rfl rfl rfl ?_ (Pur.stepA (P_load_box rfl rfl rfl ty29)) rfl ?_; iterate 1 (· first | assumption | rfl | omega | (simp; done) | (simp; omega) | (simp_all; done)))
          | (refine Chain.gT [1, 0, 2, 3, 4, 5, 8, 7, 6, 9] rfl rfl rfl rfl rfl ?_ (Pur.stepA (P_load_ept rfl rfl rfl ty29)) rfl ?_; iterate 1 (· first | assumption | rfl | omega | (simp; done) | (simp; omega) | (simp_all; done)))
          | (refine Chain.gT [1, 0, 2, 3, 4, 5, 8, 7, 6, 9] rfl rfl rfl rfl rfl ?_ (Pur.stepA (P_load_row rfl rfl (by assumption) rfl rfl ty29)) rfl ?_; iterate 1 (· first | assumption | rfl | omega | (simp; done) | (simp; omega) | (simp_all; done)))
        first
          | (refine Chain.gT [1, 0, 2, 3, 4, 8, 7, 5, 9, 6, 10] rfl rfl rfl rfl rfl ?_ (Pur.stepA (P_len_sl rfl sl29)) rfl ?_; iterate 1 (· first | assumption | rfl | omega | (simp; done) | (simp; omega) | (simp_all; done)))
          | (refine Chain.gT [1, 0, 2, 3, 4, 8, 7, 5, 9, 6, 10] rfl rfl rfl rfl rfl ?_ (Pur.stepA (P_len_own rfl rfl sl29)) rfl ?_; iterate 1 (· first | assumption | rfl | omega | (simp; done) | (simp; omega) | (simp_all; done)))
          | (refine Chain.gT [1, 0, 2, 3, 4, 8, 7, 5, 9, 6, 10] rfl rfl rfl rfl rfl ?_ (Pur.stepA (P_len_nils rfl sl29)) rfl ?_; iterate 1 (· first | assumption | rfl | omega | (simp; done) | (simp; omega) | (simp_all; done)))
        (refine Chain.gT [1, 0, 2, 3, 8, 7, 4, 9, 5, 10, 6, 11] rfl rfl rfl rfl rfl ?_ (Pur.stepA (P_gtr rfl rfl)) rfl ?_; iterate 1 (· first | assumption | rfl | omega | (simp; done) | (simp; omega) | (simp_all; done)))
        (refine Chain.step [1, 0, 8, 7, 2, 9, 3, 10, 4, 11, 5, 12, 6] rfl rfl rfl (Pur.stepA (P_pick_false rfl ?_ rfl)) rfl ?_; iterate 1 (· first | assumption | rfl | omega | (simp; done) | (simp; omega) | (simp_all; done)))
        refine Chain.step [1, 0, 8, 7, 2, 9, 3, 10, 4, 11, 5, 12, 6, 13] rfl rfl rfl (Pur.stepA (P_move rfl)) rfl ?_
        (refine Chain.gT [1, 0, 8, 7, 2, 9, 3, 10, 4, 11, 5, 12, 6, 13, 14] rfl rfl rfl rfl rfl ?_ (Pur.stepA (P_move rfl)) rfl ?_; iterate 1 (· first | assumption | rfl | omega | (simp; done) | (simp; omega) | (simp_all; done)))
        (refine Chain.gT [1, 0, 8, 7, 2, 9, 3, 10, 4, 11, 5, 12, 6, 13, 14] rfl rfl rfl rfl rfl ?_ (Pur.stepA (P_move rfl)) rfl ?_; iterate 1 (· first | assumption | rfl | omega | (simp; done) | (simp; omega) | (simp_all; done)))
        first
          | (refine Chain.gT [1, 0, 8, 7, 2, 9, 3, 10, 4, 11, 5, 12, 6, 13, 14, 16, 15] rfl rfl rfl rfl rfl ?_ (Pur.stepA (P_index_sl rfl rfl sl43 ty29 (fun _ => rfl) (by omega) (by assumption))) rfl ?_; iterate 1 (· first | assumption | rfl | omega | (simp; done) | (simp; omega) | (simp_all; done)))
          | (refine Chain.gT [1, 0, 8, 7, 2, 9, 3, 10, 4, 11, 5, 12, 6, 13, 14, 16, 15] rfl rfl rfl rfl rfl ?_ (Pur.stepA (P_index_own rfl rfl rfl sl43 ty29 (by omega) (by omega))) rfl ?_; iterate 1 (· first | assumption | rfl | omega | (simp; done) | (simp; omega) | (simp_all; done)))
        first
          | (refine Chain.gT [1, 0, 8, 7, 2, 9, 3, 10, 4, 11, 5, 12, 6, 13, 16, 15, 14, 17] rfl rfl rfl rfl rfl ?_ (Pur.stepA (P_load_box rfl rfl rfl ty29)) rfl ?_; iterate 1 (· first | assumption | rfl | omega | (simp; done) | (simp; omega) | (simp_all; done)))
          | (refine Chain.gT [1, 0, 8, 7, 2, 9, 3, 10, 4, 11, 5, 12, 6, 13, 16, 15, 14, 17] rfl rfl rfl rfl rfl ?_ (Pur.stepA (P_load_ept rfl rfl rfl ty29)) rfl ?_; iterate 1 (· first | assumption | rfl | omega | (simp; done) | (simp; omega) | (simp_all; done)))
          | (refine Chain.gT [1, 0, 8, 7, 2, 9, 3, 10, 4, 11, 5, 12, 6, 13, 16, 15, 14, 17] rfl rfl rfl rfl rfl ?_ (Pur.stepA (P_load_row rfl rfl (by assumption) rfl rfl ty29)) rfl ?_; iterate 1 (· first | assumption | rfl | omega | (simp; done) | (simp; omega) | (simp_all; done)))
        (refine Chain.gT [1, 0, 8, 7, 2, 9, 3, 10, 4, 11, 5, 12, 6, 13, 14] rfl rfl rfl rfl rfl ?_ (Pur.stepA (P_move rfl)) rfl ?_; iterate 1 (· first | assumption | rfl | omega | (simp; done) | (simp; omega) | (simp_all; done)))
        (refine Chain.gT [1, 0, 8, 7, 2, 9, 3, 10, 4, 11, 5, 12, 6, 13, 14] rfl rfl rfl rfl rfl ?_ (Pur.stepA (P_move rfl)) rfl ?_; iterate 1 (· first | assumption | rfl | omega | (simp; done) | (simp; omega) | (simp_all; done)))
        first
          | (refine Chain.gT [1, 0, 8, 7, 2, 9, 3, 10, 4, 11, 5, 12, 6, 13, 14, 20, 19] rfl rfl rfl rfl rfl ?_ (Pur.stepA (P_index_sl rfl rfl sl29 ty3 (fun _ => rfl) (by omega) (by assumption))) rfl ?_; iterate 1 (· first | assumption | rfl | omega | (simp; done) | (simp; omega) | (simp_all; done)))
          | (refine Chain.gT [1, 0, 8, 7, 2, 9, 3, 10, 4, 11, 5, 12, 6, 13, 14, 20, 19] rfl rfl rfl rfl rfl ?_ (Pur.stepA (P_index_own rfl rfl rfl sl29 ty3 (by omega) (by omega))) rfl ?_; iterate 1 (· first | assumption | rfl | omega | (simp; done) | (simp; omega) | (simp_all; done)))
        first
          | (refine Chain.gT [1, 0, 8, 7, 2, 9, 3, 10, 4, 11, 5, 12, 6, 13, 20, 19, 14, 21] rfl rfl rfl rfl rfl ?_ (Pur.stepA (P_load_box rfl rfl rfl ty3)) rfl ?_; iterate 1 (· first | assumption | rfl | omega | (simp; done) | (simp; omega) | (simp_all; done)))
          | (refine Chain.gT [1, 0, 8, 7, 2, 9, 3, 10, 4, 11, 5, 12, 6, 13, 20, 19, 14, 21] rfl rfl rfl rfl rfl ?_ (Pur.stepA (P_load_ept rfl rfl rfl ty3)) rfl ?_; iterate 1 (· first | assumption | rfl | omega | (simp; done) | (simp; omega) | (simp_all; done)))
          | (refine Chain.gT [1, 0, 8, 7, 2, 9, 3, 10, 4, 11, 5, 12, 6, 13, 20, 19, 14, 21] rfl rfl rfl rfl rfl ?_ (Pur.stepA (P_load_row rfl rfl (by assumption) rfl rfl ty3)) rfl ?_; iterate 1 (· first | assumption | rfl | omega | (simp; done) | (simp; omega) | (simp_all; done)))
        (refine Chain.gT [1, 0, 8, 7, 2, 9, 3, 10, 4, 11, 5, 12, 20, 19, 16, 15, 6, 13, 21, 17, 14, 22, 18] rfl rfl rfl rfl rfl ?_ (A_call rfl rfl rfl (LeL.refl _) hH) rfl ?_; iterate 1 (· first | assumption | rfl | omega | (simp; done) | (simp; omega) | (simp_all; done)))
        (refine Chain.gT [1, 0, 8, 7, 2, 9, 3, 10, 4, 11, 20, 19, 16, 15, 5, 12, 21, 17, 6, 13, 22, 18, 14, 23] rfl rfl rfl rfl rfl ?_ (Pur.stepA (P_not rfl)) rfl ?_; iterate 1 (· first | assumption | rfl | omega | (simp; done) | (simp; omega) | (simp_all; done)))
        (refine Chain.step [1, 0, 8, 7, 2, 9, 20, 19, 16, 15, 3, 10, 21, 17, 4, 11, 22, 18, 5, 12, 23, 6, 13, 24, 14] rfl rfl rfl (Pur.stepA (P_pick_false rfl ?_ rfl)) rfl ?_; iterate 1 (· first | assumption | rfl | omega | (simp; done) | (simp; omega) | (simp_all; done)))
        refine Chain.step [1, 0, 8, 7, 2, 9, 3, 10, 4, 11, 20, 19, 16, 15, 5, 12, 21, 17, 6, 13, 22, 18, 24, 14, 23, 25] rfl rfl rfl (Pur.stepA (P_move rfl)) rfl ?_
        (refine Chain.gT [1, 0, 8, 7, 2, 9, 3, 10, 4, 11, 20, 19, 16, 15, 5, 12, 21, 17, 6, 13, 22, 18, 24, 14, 23, 25, 26] rfl rfl rfl rfl rfl ?_ (Pur.stepA (P_move rfl)) rfl ?_; iterate 1 (· first | assumption | rfl | omega | (simp; done) | (simp; omega) | (simp_all; done)))
        (refine Chain.gT [1, 0, 8, 7, 2, 9, 3, 10, 4, 11, 20, 19, 16, 15, 5, 12, 21, 17, 6, 13, 22, 18, 24, 14, 23, 25, 26] rfl rfl rfl rfl rfl ?_ (Pur.stepA (P_move rfl)) rfl ?_; iterate 1 (· first | assumption | rfl | omega | (simp; done) | (simp; omega) | (simp_all; done)))
        first
          | (refine Chain.gT [1, 0, 8, 7, 2, 9, 3, 10, 4, 11, 20, 19, 16, 15, 5, 12, 21, 17, 6, 13, 22, 18, 24, 14, 23, 25, 26, 28, 27] rfl rfl rfl rfl rfl ?_ (Pur.stepA (P_index_sl rfl rfl sl43 ty29 (fun _ => rfl) (by omega) (by assumption))) rfl ?_; iterate 1 (· first | assumption | rfl | omega | (simp; done) | (simp; omega) | (simp_all; done)))
          | (refine Chain.gT [1, 0, 8, 7, 2, 9, 3, 10, 4, 11, 20, 19, 16, 15, 5, 12, 21, 17, 6, 13, 22, 18, 24, 14, 23, 25, 26, 28, 27] rfl rfl rfl rfl rfl ?_ (Pur.stepA (P_index_own rfl rfl rfl sl43 ty29 (by omega) (by omega))) rfl ?_; iterate 1 (· first | assumption | rfl | omega | (simp; done) | (simp; omega) | (simp_all; done)))
        first
          | (refine Chain.gT [1, 0, 8, 7, 2, 9, 3, 10, 4, 11, 20, 19, 16, 15, 5, 12, 21, 17, 6, 13, 22, 18, 24, 14, 23, 25, 28, 27, 26, 29] rfl rfl rfl rfl rfl ?_ (Pur.stepA (P_load_box rfl rfl rfl ty29)) rfl ?_; iterate 1 (· first | assumption | rfl | omega | (simp; done) | (simp; omega) | (simp_all; done)))
          | (refine Chain.gT [1, 0, 8, 7, 2, 9, 3, 10, 4, 11, 20, 19, 16, 15, 5, 12, 21, 17, 6, 13, 22, 18, 24, 14, 23, 25, 28, 27, 26, 29] rfl rfl rfl rfl rfl ?_ (Pur.stepA (P_load_ept rfl rfl rfl ty29)) rfl ?_; iterate 1 (· first | assumption | rfl | omega | (simp; done) | (simp; omega) | (simp_all; done)))
          | (refine Chain.gT [1, 0, 8, 7, 2, 9, 3, 10, 4, 11, 20, 19, 16, 15, 5, 12, 21, 17, 6, 13, 22, 18, 24, 14, 23, 25, 28, 27, 26, 29] rfl rfl rfl rfl rfl ?_ (Pur.stepA (P_load_row rfl rfl (by assumption) rfl rfl ty29)) rfl ?_; iterate 1 (· first | assumption | rfl | omega | (simp; done) | (simp; omega) | (simp_all; done)))
        first
          | (refine Chain.gT [1, 0, 8, 7, 2, 9, 3, 10, 4, 11, 20, 19, 16, 15, 5, 12, 21, 17, 6, 13, 22, 18, 24, 14, 28, 27, 23, 25, 29, 26, 30] rfl rfl rfl rfl rfl ?_ (Pur.stepA (P_len_sl rfl sl29)) rfl ?_; iterate 1 (· first | assumption | rfl | omega | (simp; done) | (simp; omega) | (simp_all; done)))
          | (refine Chain.gT [1, 0, 8, 7, 2, 9, 3, 10, 4, 11, 20, 19, 16, 15, 5, 12, 21, 17, 6, 13, 22, 18, 24, 14, 28, 27, 23, 25, 29, 26, 30] rfl rfl rfl rfl rfl ?_ (Pur.stepA (P_len_own rfl rfl sl29)) rfl ?_; iterate 1 (· first | assumption | rfl | omega | (simp; done) | (simp; omega) | (simp_all; done)))
          | (refine Chain.gT [1, 0, 8, 7, 2, 9, 3, 10, 4, 11, 20, 19, 16, 15, 5, 12, 21, 17, 6, 13, 22, 18, 24, 14, 28, 27, 23, 25, 29, 26, 30] rfl rfl rfl rfl rfl ?_ (Pur.stepA (P_len_nils rfl sl29)) rfl ?_; iterate 1 (· first | assumption | rfl | omega | (simp; done) | (simp; omega) | (simp_all; done)))
        (refine Chain.gT [1, 0, 8, 7, 2, 9, 3, 10, 4, 11, 20, 19, 16, 15, 5, 12, 21, 17, 6, 13, 28, 27, 22, 18, 24, 14, 29, 23, 25, 30, 26, 31] rfl rfl rfl rfl rfl ?_ (Pur.stepA (P_eql rfl rfl)) rfl ?_; iterate 1 (· first | assumption | rfl | omega | (simp; done) | (simp; omega) | (simp_all; done)))
        (refine Chain.gT [1, 0, 8, 7, 2, 9, 3, 10, 4, 11, 20, 19, 16, 15, 5, 12, 28, 27, 21, 17, 6, 13, 29, 22, 18, 24, 14, 30, 23, 25, 31, 26, 32] rfl rfl rfl rfl rfl ?_ (Pur.stepA (P_move rfl)) rfl ?_; iterate 1 (· first | assumption | rfl | omega | (simp; done) | (simp; omega) | (simp_all; done)))
        (refine Chain.gT [1, 0, 8, 7, 2, 9, 3, 10, 4, 11, 20, 19, 16, 15, 5, 12, 28, 27, 21, 17, 6, 13, 29, 22, 18, 24, 14, 30, 23, 25, 31, 26, 32, 33] rfl rfl rfl rfl rfl ?_ (Pur.stepA (P_move rfl)) rfl ?_; iterate 1 (· first | assumption | rfl | omega | (simp; done) | (simp; omega) | (simp_all; done)))
        (refine Chain.gT [1, 0, 8, 7, 2, 9, 3, 10, 4, 11, 20, 19, 16, 15, 5, 12, 28, 27, 21, 17, 6, 13, 29, 22, 18, 24, 14, 30, 23, 25, 31, 26, 32, 33] rfl rfl rfl rfl rfl ?_ (Pur.stepA (P_move rfl)) rfl ?_; iterate 1 (· first | assumption | rfl | omega | (simp; done) | (simp; omega) | (simp_all; done)))
        first
          | (refine Chain.gT [1, 0, 8, 7, 2, 9, 3, 10, 4, 11, 20, 19, 16, 15, 5, 12, 28, 27, 21, 17, 6, 13, 29, 22, 18, 24, 14, 30, 23, 25, 31, 26, 32, 33, 35, 34] rfl rfl rfl rfl rfl ?_ (Pur.stepA (P_index_sl rfl rfl sl43 ty29 (fun _ => rfl) (by omega) (by assumption))) rfl ?_; iterate 1 (· first | assumption | rfl | omega | (simp; done) | (simp; omega) | (simp_all; done)))
          | (refine Chain.gT [1, 0, 8, 7, 2, 9, 3, 10, 4, 11, 20, 19, 16, 15, 5, 12, 28, 27, 21, 17, 6, 13, 29, 22, 18, 24, 14, 30, 23, 25, 31, 26, 32, 33, 35, 34] rfl rfl rfl rfl rfl ?_ (Pur.stepA (P_index_own rfl rfl rfl sl43 ty29 (by omega) (by omega))) rfl ?_; iterate 1 (· first | assumption | rfl | omega | (simp; done) | (simp; omega) | (simp_all; done)))
        first
          | (refine Chain.gT [1, 0, 8, 7, 2, 9, 3, 10, 4, 11, 20, 19, 16, 15, 5, 12, 28, 27, 21, 17, 6, 13, 29, 22, 18, 24, 14, 30, 23, 25, 31, 26, 32, 35, 34, 33, 36] rfl rfl rfl rfl rfl ?_ (Pur.stepA (P_load_box rfl rfl rfl ty29)) rfl ?_; iterate 1 (· first | assumption | rfl | omega | (simp; done) | (simp; omega) | (simp_all; done)))
          | (refine Chain.gT [1, 0, 8, 7, 2, 9, 3, 10, 4, 11, 20, 19, 16, 15, 5, 12, 28, 27, 21, 17, 6, 13, 29, 22, 18, 24, 14, 30, 23, 25, 31, 26, 32, 35, 34, 33, 36] rfl rfl rfl rfl rfl ?_ (Pur.stepA (P_load_ept rfl rfl rfl ty29)) rfl ?_; iterate 1 (· first | assumption | rfl | omega | (simp; done) | (simp; omega) | (simp_all; done)))
          | (refine Chain.gT [1, 0, 8, 7, 2, 9, 3, 10, 4, 11, 20, 19, 16, 15, 5, 12, 28, 27, 21, 17, 6, 13, 29, 22, 18, 24, 14, 30, 23, 25, 31, 26, 32, 35, 34, 33, 36] rfl rfl rfl rfl rfl ?_ (Pur.stepA (P_load_row rfl rfl (by assumption) rfl rfl ty29)) rfl ?_; iterate 1 (· first | assumption | rfl | omega | (simp; done) | (simp; omega) | (simp_all; done)))
        first
          | (refine Chain.gT [1, 0, 8, 7, 2, 9, 3, 10, 4, 11, 20, 19, 16, 15, 5, 12, 28, 27, 21, 17, 6, 13, 29, 22, 18, 24, 14, 30, 23, 25, 31, 35, 34, 26, 32, 36, 33, 37] rfl rfl rfl rfl rfl ?_ (Pur.stepA (P_index_sl rfl rfl sl29 ty3 (fun _ => rfl) (by omega) (by assumption))) rfl ?_; iterate 1 (· first | assumption | rfl | omega | (simp; done) | (simp; omega) | (simp_all; done)))
          | (refine Chain.gT [1, 0, 8, 7, 2, 9, 3, 10, 4, 11, 20, 19, 16, 15, 5, 12, 28, 27, 21, 17, 6, 13, 29, 22, 18, 24, 14, 30, 23, 25, 31, 35, 34, 26, 32, 36, 33, 37] rfl rfl rfl rfl rfl ?_ (Pur.stepA (P_index_own rfl rfl rfl sl29 ty3 (by omega) (by omega))) rfl ?_; iterate 1 (· first | assumption | rfl | omega | (simp; done) | (simp; omega) | (simp_all; done)))
        first
          | (refine Chain.gT [1, 0, 8, 7, 2, 9, 3, 10, 4, 11, 20, 19, 16, 15, 5, 12, 28, 27, 21, 17, 6, 13, 29, 22, 18, 24, 14, 30, 35, 34, 23, 25, 31, 36, 26, 32, 37, 33, 38] rfl rfl rfl rfl rfl ?_ (Pur.stepA (P_load_box rfl rfl rfl ty3)) rfl ?_; iterate 1 (· first | assumption | rfl | omega | (simp; done) | (simp; omega) | (simp_all; done)))
          | (refine Chain.gT [1, 0, 8, 7, 2, 9, 3, 10, 4, 11, 20, 19, 16, 15, 5, 12, 28, 27, 21, 17, 6, 13, 29, 22, 18, 24, 14, 30, 35, 34, 23, 25, 31, 36, 26, 32, 37, 33, 38] rfl rfl rfl rfl rfl ?_ (Pur.stepA (P_load_ept rfl rfl rfl ty3)) rfl ?_; iterate 1 (· first | assumption | rfl | omega | (simp; done) | (simp; omega) | (simp_all; done)))
          | (refine Chain.gT [1, 0, 8, 7, 2, 9, 3, 10, 4, 11, 20, 19, 16, 15, 5, 12, 28, 27, 21, 17, 6, 13, 29, 22, 18, 24, 14, 30, 35, 34, 23, 25, 31, 36, 26, 32, 37, 33, 38] rfl rfl rfl rfl rfl ?_ (Pur.stepA (P_load_row rfl rfl (by assumption) rfl rfl ty3)) rfl ?_; iterate 1 (· first | assumption | rfl | omega | (simp; done) | (simp; omega) | (simp_all; done)))
        (refine Chain.gT [1, 0, 8, 7, 2, 9, 3, 10, 4, 11, 20, 19, 16, 15, 5, 12, 28, 27, 21, 17, 6, 13, 29, 22, 18, 24, 14, 30, 23, 25, 31, 26, 32, 33] rfl rfl rfl rfl rfl ?_ (Pur.stepA (P_move rfl)) rfl ?_; iterate 1 (· first | assumption | rfl | omega | (simp; done) | (simp; omega) | (simp_all; done)))
        (refine Chain.gT [1, 0, 8, 7, 2, 9, 3, 10, 4, 11, 20, 19, 16, 15, 5, 12, 28, 27, 21, 17, 6, 13, 29, 22, 18, 24, 14, 30, 23, 25, 31, 26, 32, 33] rfl rfl rfl rfl rfl ?_ (Pur.stepA (P_move rfl)) rfl ?_; iterate 1 (· first | assumption | rfl | omega | (simp; done) | (simp; omega) | (simp_all; done)))
        first
          | (refine Chain.gT [1, 0, 8, 7, 2, 9, 3, 10, 4, 11, 20, 19, 16, 15, 5, 12, 28, 27, 21, 17, 6, 13, 29, 22, 18, 24, 14, 30, 23, 25, 31, 26, 32, 33, 41, 40] rfl rfl rfl rfl rfl ?_ (Pur.stepA (P_index_sl rfl rfl sl43 ty29 (fun _ => rfl) (by omega) (by assumption))) rfl ?_; iterate 1 (· first | assumption | rfl | omega | (simp; done) | (simp; omega) | (simp_all; done)))
          | (refine Chain.gT [1, 0, 8, 7, 2, 9, 3, 10, 4, 11, 20, 19, 16, 15, 5, 12, 28, 27, 21, 17, 6, 13, 29, 22, 18, 24, 14, 30, 23, 25, 31, 26, 32, 33, 41, 40] rfl rfl rfl rfl rfl ?_ (Pur.stepA (P_index_own rfl rfl rfl sl43 ty29 (by omega) (by omega))) rfl ?_; iterate 1 (· first | assumption | rfl | omega | (simp; done) | (simp; omega) | (simp_all; done)))
        first
          | (refine Chain.gT [1, 0, 8, 7, 2, 9, 3, 10, 4, 11, 20, 19, 16, 15, 5, 12, 28, 27, 21, 17, 6, 13, 29, 22, 18, 24, 14, 30, 23, 25, 31, 26, 32, 41, 40, 33, 42] rfl rfl rfl rfl rfl ?_ (Pur.stepA (P_load_box rfl rfl rfl ty29)) rfl ?_; iterate 1 (· first | assumption | rfl | omega | (simp; done) | (simp; omega) | (simp_all; done)))
          | (refine Chain.gT [1, 0, 8, 7, 2, 9, 3, 10, 4, 11, 20, 19, 16, 15, 5, 12, 28, 27, 21, 17, 6, 13, 29, 22, 18, 24, 14, 30, 23, 25, 31, 26, 32, 41, 40, 33, 42] rfl rfl rfl rfl rfl ?_ (Pur.stepA (P_load_ept rfl rfl rfl ty29)) rfl ?_; iterate 1 (· first | assumption | rfl | omega | (simp; done) | (simp; omega) | (simp_all; done)))
          | (refine Chain.gT [1, 0, 8, 7, 2, 9, 3, 10, 4, 11, 20, 19, 16, 15, 5, 12, 28, 27, 21, 17, 6, 13, 29, 22, 18, 24, 14, 30, 23, 25, 31, 26, 32, 41, 40, 33, 42] rfl rfl rfl rfl rfl ?_ (Pur.stepA (P_load_row rfl rfl (by assumption) rfl rfl ty29)) rfl ?_; iterate 1 (· first | assumption | rfl | omega | (simp; done) | (simp; omega) | (simp_all; done)))
        first
          | (refine Chain.gT [1, 0, 8, 7, 2, 9, 3, 10, 4, 11, 20, 19, 16, 15, 5, 12, 28, 27, 21, 17, 6, 13, 29, 22, 18, 24, 14, 30, 23, 25, 31, 41, 40, 26, 32, 42, 33, 43] rfl rfl rfl rfl rfl ?_ (Pur.stepA (P_index_sl rfl rfl sl29 ty3 (fun _ => rfl) (by omega) (by assumption))) rfl ?_; iterate 1 (· first | assumption | rfl | omega | (simp; done) | (simp; omega) | (simp_all; done)))
          | (refine Chain.gT [1, 0, 8, 7, 2, 9, 3, 10, 4, 11, 20, 19, 16, 15, 5, 12, 28, 27, 21, 17, 6, 13, 29, 22, 18, 24, 14, 30, 23, 25, 31, 41, 40, 26, 32, 42, 33, 43] rfl rfl rfl rfl rfl ?_ (Pur.stepA (P_index_own rfl rfl rfl sl29 ty3 (by omega) (by omega))) rfl ?_; iterate 1 (· first | assumption | rfl | omega | (simp; done) | (simp; omega) | (simp_all; done)))
        first
          | (refine Chain.gT [1, 0, 8, 7, 2, 9, 3, 10, 4, 11, 20, 19, 16, 15, 5, 12, 28, 27, 21, 17, 6, 13, 29, 22, 18, 24, 14, 30, 41, 40, 23, 25, 31, 42, 26, 32, 43, 33, 44] rfl rfl rfl rfl rfl ?_ (Pur.stepA (P_load_box rfl rfl rfl ty3)) rfl ?_; iterate 1 (· first | assumption | rfl | omega | (simp; done) | (simp; omega) | (simp_all; done)))
          | (refine Chain.gT [1, 0, 8, 7, 2, 9, 3, 10, 4, 11, 20, 19, 16, 15, 5, 12, 28, 27, 21, 17, 6, 13, 29, 22, 18, 24, 14, 30, 41, 40, 23, 25, 31, 42, 26, 32, 43, 33, 44] rfl rfl rfl rfl rfl ?_ (Pur.stepA (P_load_ept rfl rfl rfl ty3)) rfl ?_; iterate 1 (· first | assumption | rfl | omega | (simp; done) | (simp; omega) | (simp_all; done)))
          | (refine Chain.gT [1, 0, 8, 7, 2, 9, 3, 10, 4, 11, 20, 19, 16, 15, 5, 12, 28, 27, 21, 17, 6, 13, 29, 22, 18, 24, 14, 30, 41, 40, 23, 25, 31, 42, 26, 32, 43, 33, 44] rfl rfl rfl rfl rfl ?_ (Pur.stepA (P_load_row rfl rfl (by assumption) rfl rfl ty3)) rfl ?_; iterate 1 (· first | assumption | rfl | omega | (simp; done) | (simp; omega) | (simp_all; done)))
        (refine Chain.gT [1, 0, 8, 7, 2, 9, 3, 10, 4, 11, 20, 19, 16, 15, 5, 12, 28, 27, 21, 17, 6, 13, 29, 41, 40, 35, 34, 22, 18, 24, 14, 30, 42, 36, 23, 25, 31, 43, 37, 26, 32, 44, 38, 33, 45, 39] rfl rfl rfl rfl rfl ?_ (Pur.stepA (P_geq rfl rfl)) rfl ?_; iterate 1 (· first | assumption | rfl | omega | (simp; done) | (simp; omega) | (simp_all; done)))
        (refine Chain.gT [1, 0, 8, 7, 2, 9, 3, 10, 4, 11, 41, 40, 35, 34, 28, 27, 20, 19, 16, 15, 5, 12, 42, 36, 29, 21, 17, 6, 13, 43, 37, 30, 22, 18, 24, 14, 44, 38, 31, 23, 25, 45, 39, 32, 26, 46, 33] rfl rfl rfl rfl rfl ?_ (Pur.stepA (P_pick_true rfl ?_ rfl)) rfl ?_; iterate 2 (· first | assumption | rfl | omega | (simp; done) | (simp; omega) | (simp_all; done)))
        (refine Chain.step [1, 0, 8, 7, 2, 9, 41, 40, 35, 34, 28, 27, 3, 10, 42, 36, 29, 4, 11, 43, 37, 30, 20, 19, 16, 15, 5, 12, 44, 38, 31, 21, 17, 6, 13, 45, 39, 32, 22, 18, 24, 14, 46, 33, 23, 25, 47, 26] rfl rfl rfl (Pur.stepA (P_pick_false rfl ?_ rfl)) rfl ?_; iterate 1 (· first | assumption | rfl | omega | (simp; done) | (simp; omega) | (simp_all; done)))
        refine Chain.tail [] rfl rfl ?_
        refine Ex.nil ?_
        refine X.cond rfl (fun hc6 => ?_) (fun hc6 => ?_)
        · try simp only [decide_eq_true_eq, decide_eq_false_iff_not, Bool.not_eq_true', Bool.not_eq_false', Bool.and_eq_true, Bool.or_eq_true, Bool.and_eq_false_iff, Bool.or_eq_false_iff, Int.not_lt, Int.not_le, Decidable.not_not] at hc6
          (first | (simp at hc6; done) | omega | (simp at hc6; omega))
        try simp only [decide_eq_true_eq, decide_eq_false_iff_not, Bool.not_eq_true', Bool.not_eq_false', Bool.and_eq_true, Bool.or_eq_true, Bool.and_eq_false_iff, Bool.or_eq_false_iff, Int.not_lt, Int.not_le, Decidable.not_not] at hc6
        refine X.skip ?_
        refine X.region ?_
        refine Ex.pur (P_move rfl) rfl ?_
        refine Ex.pur (P_add rfl rfl (IntWalk.i64_in _ (by omega))) rfl ?_
        refine Ex.pur (P_assign rfl) rfl ?_
        refine Ex.nil ?_
        refine ⟨k + 1, Imp.of (by (repeat' (first | exact True.intro | (refine And.intro ⟨_, rfl, ?_⟩ ?_; (first | exact LeV.refl _ | exact LeV.any _ | exact LeB.refl _ | (refine LeV.eq ?_; simp; done) | (refine LeV.eq ?_; congr 1; omega) | (refine LeV.eq ?_; dsimp only; congr 1; omega) | (refine LeV.eq (congrArg (AV.int _) ?_); omega) | exact LeV.nils _ | exact LeB.row (by assumption) | (refine LeB.eq ?_; congr 1; omega) | (refine LeB.eq ?_; congr 1; simp only [cond_true, cond_false]; omega)))))) (by (repeat' (first | exact True.intro | (refine And.intro ⟨_, rfl, ?_⟩ ?_; (first | exact LeV.refl _ | exact LeV.any _ | exact LeB.refl _ | (refine LeV.eq ?_; simp; done) | (refine LeV.eq ?_; congr 1; omega) | (refine LeV.eq ?_; dsimp only; congr 1; omega) | (refine LeV.eq (congrArg (AV.int _) ?_); omega) | exact LeV.nils _ | exact LeB.row (by assumption) | (refine LeB.eq ?_; congr 1; omega) | (refine LeB.eq ?_; congr 1; simp only [cond_true, cond_false]; omega)))))), ?_, ?_⟩
        · first | trivial | omega | (refine ⟨?_, ?_⟩ <;> omega)
        · omega
    · try simp only [decide_eq_true_eq, decide_eq_false_iff_not, Bool.not_eq_true', Bool.not_eq_false', Bool.and_eq_true, Bool.or_eq_true, Bool.and_eq_false_iff, Bool.or_eq_false_iff, Int.not_lt, Int.not_le, Decidable.not_not] at hc4
      refine X.exit ?_
      refine X.seq ?_
      refine X.region ?_
      refine Ex.pur (P_move rfl) rfl ?_
      refine Ex.pur (P_assign rfl) rfl ?_
      refine Ex.nil ?_
      refine X.ret ?_
      refine RetQ.ret (.one (.tmp rfl (LeV.eq ?_)))
      all_goals (first | rfl | simp)
end Go.Rse
