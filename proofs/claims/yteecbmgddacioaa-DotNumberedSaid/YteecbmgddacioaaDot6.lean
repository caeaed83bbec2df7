/-
  Walks: the meaning of each dot by the rule.
-/
import Derived.Test.YteecbmgddacioaaDot5
namespace Go.Rse
open Go Go.Proofs
set_option linter.unusedVariables false
set_option linter.unusedSimpArgs false
attribute [local irreducible] Pur StepA StepM Ex X ExG Fn Imp LeV LeB FnO It YStep
/-- The value behind a place, 9 if there is none. -/
def nextV (l : List Sg) (i : Int) : Int := match l[(i + 1).toNat]? with | some s => s.Value | none => 9
/-- The meaning by the rule of a dot at place i, behind the sign p. -/
def choice (m : Mn) (l : List Sg) (i : Int) (p : Sg) : Int :=
  if (mngs m p).length = 2 then (if nextV l i ≤ p.Value then m.aV p.Value else if m.pV p.Value = 3 then p.Value else 0) else (mngs m p).headD 0
def ruleAt (m : Mn) (l : List Sg) (i : Int) : Int := match prevS l i with | some p => choice m l i p | none => 0
def ruleD (m : Mn) (l : List Sg) : List Int := (dotsK l l.length).map (ruleAt m l)
theorem rule_take {m : Mn} {l : List Sg} {L : List Int} {k : Nat} {x : Int} {p : Sg} (h : L[k]? = some x) (hp : l[(x - 1).toNat]? = some p) : (L.take k).map (ruleAt m l) ++ [choice m l x p] = (L.take (k + 1)).map (ruleAt m l) := by
  have e : ruleAt m l x = choice m l x p := by unfold ruleAt prevS; rw [hp]
  rw [List.take_add_one, h]
  simp [e]
theorem dotsK_ne {m : Mn} {l : List Sg} (h : ckFrom m l 0 l = 0) : ∀ k, k ≤ l.length → ∀ x, x ∈ dotsK l k → ∀ p, l[(x - 1).toNat]? = some p → (mngs m p).length ≠ 0
  | 0, _, x, hx => by simp [dotsK] at hx
  | k + 1, hk, x, hx => by
    simp only [dotsK, List.mem_append] at hx
    rcases hx with hx | hx
    · exact dotsK_ne h k (by omega) x hx
    · have hs : l[k]? = some l[k] := List.getElem?_eq_getElem (by omega)
      simp only [hs] at hx
      split at hx
      · rename_i hK
        have h0 := (ckFrom_all h (k + 1) hk).2 k _ (by omega) hs
        simp at hx
        intro p hp
        cases k with
        | zero => unfold sgF at h0; rw [if_neg (by omega), if_pos hK] at h0; simp at h0
        | succ j =>
          rw [show (x - 1).toNat = j by omega] at hp
          unfold sgF at h0
          rw [if_neg (by omega), if_pos hK] at h0
          simp only [hp] at h0
          intro hz
          rw [if_pos (.inr hz)] at h0
          simp at h0
      · simp at hx
theorem mnsD_get {m : Mn} {l : List Sg} {k : Nat} {x : Int} {p : Sg} (h : (dotsK l l.length)[k]? = some x) (hp : l[(x - 1).toNat]? = some p) : (mnsD m l)[k]? = some (mngs m p) := by
  have e : mnAt m l x = mngs m p := by unfold mnAt prevS; rw [hp]
  rw [mnsD, List.getElem?_map, h]
  simp [e]
theorem C_dot_Rule_1 (l : List Sg) (hl : l.length ≤ 60) (i : Int) (h0 : 0 ≤ i) (h1 : i ≤ 60) : Fn Try.prog 118 [iv i, .ept (fun _ : Unit => [sgsA l]) () 0] (iv (nextV l i)) := by
  refine Fn.intro (ts := [(0, iv i), (1, .ept (fun _ : Unit => [sgsA l]) () 0)]) (rv := [.tmp 3]) (n := 15) (by kernel_rfl) Try.func118 rfl Try.ntmps118 rfl rfl rfl (by simp) (fun g w d => ?_)
  refine X.seq ?_
  refine X.region ?_
  refine Ex.pur (P_assign rfl) rfl ?_
  refine Ex.nil ?_
  refine X.seq ?_
  refine X.seq ?_
  refine X.region ?_
  refine Ex.pur (P_move rfl) rfl ?_
  refine Ex.pur (P_add rfl rfl (IntWalk.i64_in _ (by omega))) rfl ?_
  first
    | refine Ex.pur (P_load_box rfl rfl rfl ty41) rfl ?_
    | refine Ex.pur (P_load_ept rfl rfl rfl ty41) rfl ?_
    | refine Ex.pur (P_load_row rfl rfl (by assumption) rfl rfl ty41) rfl ?_
  first
    | refine Ex.pur (P_len_sl rfl sl41) rfl ?_
    | refine Ex.pur (P_len_own rfl rfl sl41) rfl ?_
    | refine Ex.pur (P_len_nils rfl sl41) rfl ?_
  refine Ex.pur (P_lss rfl rfl) rfl ?_
  refine Ex.nil ?_
  refine X.cond rfl (fun hc1 => ?_) (fun hc1 => ?_)
  · try simp only [decide_eq_true_eq, decide_eq_false_iff_not, Bool.not_eq_true', Bool.not_eq_false', Bool.and_eq_true, Bool.or_eq_true, Bool.and_eq_false_iff, Bool.or_eq_false_iff, Int.not_lt, Int.not_le, Decidable.not_not] at hc1
    obtain ⟨s, hs⟩ : ∃ s, l[(i + 1).toNat]? = some s := ⟨_, List.getElem?_eq_getElem (by omega)⟩
    refine X.seq ?_
    refine X.region ?_
    first
      | refine Ex.pur (P_load_box rfl rfl rfl ty41) rfl ?_
      | refine Ex.pur (P_load_ept rfl rfl rfl ty41) rfl ?_
      | refine Ex.pur (P_load_row rfl rfl (by assumption) rfl rfl ty41) rfl ?_
    refine Ex.pur (P_move rfl) rfl ?_
    refine Ex.pur (P_add rfl rfl (IntWalk.i64_in _ (by omega))) rfl ?_
    first
      | refine Ex.pur (P_index_sl rfl rfl sl41 ty64 (fun _ => rfl) (by omega) (by assumption)) rfl ?_
      | refine Ex.pur (P_index_own rfl rfl rfl sl41 ty64 (by omega) (by omega)) rfl ?_
    first
      | refine Ex.pur (P_fieldAddr_ptr rfl fo64_1) rfl ?_
      | refine Ex.pur (P_fieldAddr_ept rfl fo64_1) rfl ?_
    first
      | refine Ex.pur (P_load_box rfl rfl rfl ty3) rfl ?_
      | refine Ex.pur (P_load_ept rfl rfl rfl ty3) rfl ?_
      | refine Ex.pur (P_load_row rfl rfl (by assumption) rfl rfl ty3) rfl ?_
    refine Ex.pur (P_assign rfl) rfl ?_
    refine Ex.nil ?_
    refine X.ret ?_
    refine RetQ.ret (.one (.tmp rfl (LeV.eq ?_)))
    all_goals (congr 1; unfold nextV; rw [hs])
  try simp only [decide_eq_true_eq, decide_eq_false_iff_not, Bool.not_eq_true', Bool.not_eq_false', Bool.and_eq_true, Bool.or_eq_true, Bool.and_eq_false_iff, Bool.or_eq_false_iff, Int.not_lt, Int.not_le, Decidable.not_not] at hc1
  have hs : l[(i + 1).toNat]? = none := List.getElem?_eq_none (by omega)
  refine X.skip ?_
  refine X.seq ?_
  refine X.region ?_
  refine Ex.pur (P_assign rfl) rfl ?_
  refine Ex.nil ?_
  refine X.ret ?_
  refine RetQ.ret (.one (.tmp rfl (LeV.eq ?_)))
  all_goals (congr 1; unfold nextV; rw [hs])
theorem C_dot_Rule (m : Mn) (l : List Sg) (hl : l.length ≤ 60) : Fn Try.prog 35 [mnA m, sgsA l] (.tup [intsA (if ckD m l = 0 then ruleD m l else []), iv (ckD m l)]) := by
  refine Fn.intro (ts := [(0, mnA m), (1, sgsA l)]) (rv := [.tmp 4, .tmp 5]) (n := 83) (by kernel_rfl) Try.func35 rfl Try.ntmps35 rfl rfl rfl (by simp) (fun g w d => ?_)
  refine X.seq ?_
  refine X.region ?_
  refine Ex.stepA (A_box_agg (k := 2) rfl rfl) rfl rfl ?_
  refine Ex.stepA (A_box (k := 3) rfl rfl rfl) rfl rfl ?_
  refine Ex.pur (P_assign rfl) rfl ?_
  refine Ex.pur (P_assign rfl) rfl ?_
  refine Ex.nil ?_
  refine X.seq ?_
  refine X.region ?_
  first
    | refine Ex.pur (P_load_box_all rfl rfl rfl rfl ty23) rfl ?_
    | refine Ex.pur (P_load_ept_all rfl rfl rfl ty23) rfl ?_
    | refine Ex.pur (P_load_ept_part rfl rfl rfl rfl ty23) rfl ?_
    | refine Ex.pur (P_load_box_part rfl rfl rfl rfl ty23) rfl ?_
  first
    | refine Ex.pur (P_load_box rfl rfl rfl ty41) rfl ?_
    | refine Ex.pur (P_load_ept rfl rfl rfl ty41) rfl ?_
    | refine Ex.pur (P_load_row rfl rfl (by assumption) rfl rfl ty41) rfl ?_
  refine Ex.call rfl rfl rfl (C_dot_Meanings m l hl) rfl ?_
  refine Ex.pur (P_move rfl) rfl ?_
  refine Ex.pur (P_extract rfl rfl) rfl ?_
  refine Ex.pur (P_extract rfl rfl) rfl ?_
  refine Ex.pur (P_assign rfl) rfl ?_
  refine Ex.pur (P_assign rfl) rfl ?_
  refine Ex.nil ?_
  refine X.seq ?_
  refine X.seq ?_
  refine X.region ?_
  refine Ex.pur (P_move rfl) rfl ?_
  refine Ex.pur (P_neq rfl rfl) rfl ?_
  refine Ex.nil ?_
  refine X.cond rfl (fun hc1 => ?_) (fun hc1 => ?_)
  · try simp only [decide_eq_true_eq, decide_eq_false_iff_not, Bool.not_eq_true', Bool.not_eq_false', Bool.and_eq_true, Bool.or_eq_true, Bool.and_eq_false_iff, Bool.or_eq_false_iff, Int.not_lt, Int.not_le, Decidable.not_not] at hc1
    refine X.seq ?_
    refine X.region ?_
    refine Ex.pur (P_move rfl) rfl ?_
    refine Ex.pur (P_assign rfl) rfl ?_
    refine Ex.pur (P_assign rfl) rfl ?_
    refine Ex.nil ?_
    refine X.ret ?_
    refine RetQ.imp (Imp.of (ts := [(4, intsA []), (5, iv (ckD m l))]) (hs := []) (by (repeat' (first | exact True.intro | (refine And.intro ⟨_, rfl, ?_⟩ ?_; (first | exact LeV.refl _ | exact LeV.any _ | exact LeB.refl _ | (refine LeV.eq ?_; simp; done) | (refine LeV.eq ?_; congr 1; omega) | (refine LeV.eq ?_; dsimp only; congr 1; omega) | (refine LeV.eq (congrArg (AV.int _) ?_); omega) | exact LeV.nils _ | exact LeB.row (by assumption) | (refine LeB.eq ?_; congr 1; omega) | (refine LeB.eq ?_; congr 1; simp only [cond_true, cond_false]; omega)))))) trivial) ?_
    refine RetQ.ret (.many (by decide) (.cons (.tmp rfl (LeV.eq ?_)) (.cons (.tmp rfl (LeV.eq ?_)) .nil)))
    all_goals (first | (simp [hc1]; done) | (rw [if_pos hc1, ← hfin]; rfl) | (rw [if_neg hc1]) | (rw [hc1]; rfl) | rfl)
  try simp only [decide_eq_true_eq, decide_eq_false_iff_not, Bool.not_eq_true', Bool.not_eq_false', Bool.and_eq_true, Bool.or_eq_true, Bool.and_eq_false_iff, Bool.or_eq_false_iff, Int.not_lt, Int.not_le, Decidable.not_not] at hc1
  refine X.skip ?_
  refine X.seq ?_
  refine X.imp (Imp.freezeBox (k := 3) rfl rfl) ?_
  have hms : (if ckD m l = 0 then mnsD m l else []) = mnsD m l := if_pos hc1
  rw [hms]
  have hcf : ckFrom m l 0 l = 0 := by unfold ckD at hc1; split at hc1
                                      · exact hc1
                                      · exact absurd hc1 (by assumption)
  refine X.region ?_
  refine Ex.pur (P_makeFunc rfl) rfl ?_
  refine Ex.pur (P_assign rfl) rfl ?_
  refine Ex.nil ?_
  refine X.seq ?_
  refine X.region ?_
  refine Ex.pur (P_assign rfl) rfl ?_
  refine Ex.nil ?_
  refine X.seq ?_
  refine X.seq ?_
  refine X.imp (Imp.mkrow intE 3 1 9 9 rfl rfl) ?_
  refine X.region ?_
  first
    | refine Ex.pur (P_load_box rfl rfl rfl ty41) rfl ?_
    | refine Ex.pur (P_load_ept rfl rfl rfl ty41) rfl ?_
    | refine Ex.pur (P_load_row rfl rfl (by assumption) rfl rfl ty41) rfl ?_
  refine Ex.call rfl rfl rfl (C_dot_dots l hl) rfl ?_
  first
    | refine Ex.pur (P_len_sl rfl sl29) rfl ?_
    | refine Ex.pur (P_len_own rfl rfl sl29) rfl ?_
    | refine Ex.pur (P_len_nils rfl sl29) rfl ?_
  refine Ex.pur (P_move rfl) rfl ?_
  refine Ex.nil ?_
  refine X.block ?_
  have hdl := dotsK_len l l.length
  refine X.loop (ι := Nat) (fun (k : Nat) => ⟨[(2, .ptr 2 0 0 0), (3, .ept (fun _ : Unit => [sgsA l]) () 0), (5, iv 0), (6, listsA (mnsD m l)), (8, .fn 118 [.ept (fun _ : Unit => [sgsA l]) () 0]), (9, .own 9), (29, intsA (dotsK l l.length)), (30, iv (dotsK l l.length).length), (31, iv (k : Int))], [(2, .box (mnE m) 23), (9, .row intE (((dotsK l l.length).take k).map (ruleAt m l)) 3 1)]⟩) (fun (k : Nat) => k ≤ (dotsK l l.length).length) (fun (k : Nat) => (dotsK l l.length).length - k) 0 ?_ ?_ (fun k hk => ?_)
  · exact Imp.of (by (repeat' (first | exact True.intro | (refine And.intro ⟨_, rfl, ?_⟩ ?_; (first | exact LeV.refl _ | exact LeV.any _ | exact LeB.refl _ | (refine LeV.eq ?_; simp; done) | (refine LeV.eq ?_; congr 1; omega) | (refine LeV.eq ?_; dsimp only; congr 1; omega) | (refine LeV.eq (congrArg (AV.int _) ?_); omega) | exact LeV.nils _ | exact LeB.row (by assumption) | (refine LeB.eq ?_; congr 1; omega) | (refine LeB.eq ?_; congr 1; simp only [cond_true, cond_false]; omega)))))) (by (repeat' (first | exact True.intro | (refine And.intro ⟨_, rfl, ?_⟩ ?_; (first | exact LeV.refl _ | exact LeV.any _ | exact LeB.refl _ | (refine LeV.eq ?_; simp; done) | (refine LeV.eq ?_; congr 1; omega) | (refine LeV.eq ?_; dsimp only; congr 1; omega) | (refine LeV.eq (congrArg (AV.int _) ?_); omega) | exact LeV.nils _ | exact LeB.row (by assumption) | (refine LeB.eq ?_; congr 1; omega) | (refine LeB.eq ?_; congr 1; simp only [cond_true, cond_false]; omega))))))
  · first | trivial | omega | (refine ⟨?_, ?_⟩ <;> omega)
  refine X.seq ?_
  refine X.region ?_
  refine Ex.pur (P_lss rfl rfl) rfl ?_
  refine Ex.nil ?_
  refine X.seq ?_
  refine X.cond rfl (fun hc2 => ?_) (fun hc2 => ?_)
  · try simp only [decide_eq_true_eq, decide_eq_false_iff_not, Bool.not_eq_true', Bool.not_eq_false', Bool.and_eq_true, Bool.or_eq_true, Bool.and_eq_false_iff, Bool.or_eq_false_iff, Int.not_lt, Int.not_le, Decidable.not_not] at hc2
    obtain ⟨x, hx⟩ : ∃ x, (dotsK l l.length)[k]? = some x := ⟨_, List.getElem?_eq_getElem (by omega)⟩
    have hx2 : (dotsK l l.length)[(k : Int).toNat]? = some x := by simpa using hx
    obtain ⟨j, s, p, hj1, hj2, hj3⟩ := dotsK_mem hcf l.length (Nat.le_refl _) x (List.mem_of_getElem? hx)
    have hjl : j + 1 < l.length := (List.getElem?_eq_some_iff.1 hj2).1
    have hp : l[(x - 1).toNat]? = some p := by rw [show (x - 1).toNat = j by omega]; exact hj3
    have hne := dotsK_ne hcf l.length (Nat.le_refl _) x (List.mem_of_getElem? hx) p hp
    have hmk : (mnsD m l)[(k : Int).toNat]? = some (mngs m p) := by simpa using mnsD_get (m := m) hx hp
    obtain ⟨c0, hc0⟩ : ∃ c0, (mngs m p)[(0 : Int).toNat]? = some c0 := ⟨_, List.getElem?_eq_getElem (by simp; omega)⟩
    have hhd : (mngs m p).headD 0 = c0 := by
      cases hq : mngs m p with
      | nil => simp [hq] at hne
      | cons a b => simp [hq] at hc0; simp [hc0]
    have hrow2 := rule_take (m := m) hx hp
    have htl : (((dotsK l l.length).take k).map (ruleAt m l)).length ≤ 60 := by simp; omega
    refine X.skip ?_
    refine X.seq ?_
    refine X.block ?_
    refine X.seq ?_
    refine X.region ?_
    refine Ex.pur (P_move rfl) rfl ?_
    first
      | refine Ex.pur (P_index_sl rfl rfl sl29 ty3 (fun _ => rfl) (by omega) (by assumption)) rfl ?_
      | refine Ex.pur (P_index_own rfl rfl rfl sl29 ty3 (by omega) (by omega)) rfl ?_
    first
      | refine Ex.pur (P_load_box rfl rfl rfl ty3) rfl ?_
      | refine Ex.pur (P_load_ept rfl rfl rfl ty3) rfl ?_
      | refine Ex.pur (P_load_row rfl rfl (by assumption) rfl rfl ty3) rfl ?_
    refine Ex.pur (P_assign rfl) rfl ?_
    refine Ex.pur (P_assign rfl) rfl ?_
    refine Ex.nil ?_
    refine X.seq ?_
    refine X.region ?_
    first
      | refine Ex.pur (P_load_box rfl rfl rfl ty41) rfl ?_
      | refine Ex.pur (P_load_ept rfl rfl rfl ty41) rfl ?_
      | refine Ex.pur (P_load_row rfl rfl (by assumption) rfl rfl ty41) rfl ?_
    refine Ex.pur (P_move rfl) rfl ?_
    refine Ex.pur (P_sub rfl rfl (IntWalk.i64_in _ (by omega))) rfl ?_
    first
      | refine Ex.pur (P_index_sl rfl rfl sl41 ty64 (fun _ => rfl) (by omega) (by assumption)) rfl ?_
      | refine Ex.pur (P_index_own rfl rfl rfl sl41 ty64 (by omega) (by omega)) rfl ?_
    first
      | refine Ex.pur (P_fieldAddr_ptr rfl fo64_1) rfl ?_
      | refine Ex.pur (P_fieldAddr_ept rfl fo64_1) rfl ?_
    first
      | refine Ex.pur (P_load_box rfl rfl rfl ty3) rfl ?_
      | refine Ex.pur (P_load_ept rfl rfl rfl ty3) rfl ?_
      | refine Ex.pur (P_load_row rfl rfl (by assumption) rfl rfl ty3) rfl ?_
    refine Ex.pur (P_assign rfl) rfl ?_
    refine Ex.nil ?_
    refine X.seq ?_
    refine X.region ?_
    refine Ex.pur (P_move rfl) rfl ?_
    refine Ex.pur (P_move rfl) rfl ?_
    first
      | refine Ex.pur (P_index_sl rfl rfl sl43 ty29 (fun _ => rfl) (by omega) (by assumption)) rfl ?_
      | refine Ex.pur (P_index_own rfl rfl rfl sl43 ty29 (by omega) (by omega)) rfl ?_
    first
      | refine Ex.pur (P_load_box rfl rfl rfl ty29) rfl ?_
      | refine Ex.pur (P_load_ept rfl rfl rfl ty29) rfl ?_
      | refine Ex.pur (P_load_row rfl rfl (by assumption) rfl rfl ty29) rfl ?_
    first
      | refine Ex.pur (P_index_sl rfl rfl sl29 ty3 (fun _ => rfl) (by omega) (by assumption)) rfl ?_
      | refine Ex.pur (P_index_own rfl rfl rfl sl29 ty3 (by omega) (by omega)) rfl ?_
    first
      | refine Ex.pur (P_load_box rfl rfl rfl ty3) rfl ?_
      | refine Ex.pur (P_load_ept rfl rfl rfl ty3) rfl ?_
      | refine Ex.pur (P_load_row rfl rfl (by assumption) rfl rfl ty3) rfl ?_
    refine Ex.pur (P_assign rfl) rfl ?_
    refine Ex.nil ?_
    refine X.seq ?_
    refine X.seq ?_
    refine X.region ?_
    refine Ex.pur (P_move rfl) rfl ?_
    refine Ex.pur (P_move rfl) rfl ?_
    first
      | refine Ex.pur (P_index_sl rfl rfl sl43 ty29 (fun _ => rfl) (by omega) (by assumption)) rfl ?_
      | refine Ex.pur (P_index_own rfl rfl rfl sl43 ty29 (by omega) (by omega)) rfl ?_
    first
      | refine Ex.pur (P_load_box rfl rfl rfl ty29) rfl ?_
      | refine Ex.pur (P_load_ept rfl rfl rfl ty29) rfl ?_
      | refine Ex.pur (P_load_row rfl rfl (by assumption) rfl rfl ty29) rfl ?_
    first
      | refine Ex.pur (P_len_sl rfl sl29) rfl ?_
      | refine Ex.pur (P_len_own rfl rfl sl29) rfl ?_
      | refine Ex.pur (P_len_nils rfl sl29) rfl ?_
    refine Ex.pur (P_eql rfl rfl) rfl ?_
    refine Ex.nil ?_
    refine X.cond rfl (fun hc3 => ?_) (fun hc3 => ?_)
    · try simp only [decide_eq_true_eq, decide_eq_false_iff_not, Bool.not_eq_true', Bool.not_eq_false', Bool.and_eq_true, Bool.or_eq_true, Bool.and_eq_false_iff, Bool.or_eq_false_iff, Int.not_lt, Int.not_le, Decidable.not_not] at hc3
      refine X.seq ?_
      refine X.region ?_
      first
        | refine Ex.pur (P_load_box_all rfl rfl rfl rfl ty23) rfl ?_
        | refine Ex.pur (P_load_ept_all rfl rfl rfl ty23) rfl ?_
        | refine Ex.pur (P_load_ept_part rfl rfl rfl rfl ty23) rfl ?_
        | refine Ex.pur (P_load_box_part rfl rfl rfl rfl ty23) rfl ?_
      refine Ex.pur (P_move rfl) rfl ?_
      refine Ex.call rfl rfl rfl (C_mens_Parts m p.Value) rfl ?_
      refine Ex.pur (P_move rfl) rfl ?_
      refine Ex.pur (P_extract rfl rfl) rfl ?_
      refine Ex.pur (P_extract rfl rfl) rfl ?_
      refine Ex.pur (P_assign rfl) rfl ?_
      refine Ex.pur (P_assign rfl) rfl ?_
      refine Ex.nil ?_
      refine X.seq ?_
      refine X.region ?_
      first
        | refine Ex.pur (P_load_box_all rfl rfl rfl rfl ty23) rfl ?_
        | refine Ex.pur (P_load_ept_all rfl rfl rfl ty23) rfl ?_
        | refine Ex.pur (P_load_ept_part rfl rfl rfl rfl ty23) rfl ?_
        | refine Ex.pur (P_load_box_part rfl rfl rfl rfl ty23) rfl ?_
      refine Ex.pur (P_move rfl) rfl ?_
      refine Ex.call rfl rfl rfl (C_mens_Above m p.Value) rfl ?_
      refine Ex.pur (P_move rfl) rfl ?_
      refine Ex.pur (P_extract rfl rfl) rfl ?_
      refine Ex.pur (P_extract rfl rfl) rfl ?_
      refine Ex.pur (P_assign rfl) rfl ?_
      refine Ex.pur (P_assign rfl) rfl ?_
      refine Ex.nil ?_
      refine X.block ?_
      refine X.seq ?_
      refine X.region ?_
      refine Ex.pur (P_move rfl) rfl ?_
      refine Ex.pur (P_move rfl) rfl ?_
      refine Ex.call rfl rfl rfl (C_dot_Rule_1 l hl x (by omega) (by omega)) rfl ?_
      refine Ex.pur (P_move rfl) rfl ?_
      refine Ex.pur (P_leq rfl rfl) rfl ?_
      refine Ex.pur (P_assign rfl) rfl ?_
      refine Ex.nil ?_
      refine X.cond rfl (fun hc4 => ?_) (fun hc4 => ?_)
      · try simp only [decide_eq_true_eq, decide_eq_false_iff_not, Bool.not_eq_true', Bool.not_eq_false', Bool.and_eq_true, Bool.or_eq_true, Bool.and_eq_false_iff, Bool.or_eq_false_iff, Int.not_lt, Int.not_le, Decidable.not_not] at hc4
        have hch : choice m l x p = m.aV p.Value := by unfold choice; rw [if_pos (by omega), if_pos hc4]
        rw [hch] at hrow2
        refine X.region ?_
        refine Ex.pur (P_move rfl) rfl ?_
        refine Ex.pur (P_assign rfl) rfl ?_
        refine Ex.nil ?_
        refine X.region ?_
        refine Ex.pur (P_move rfl) rfl ?_
        refine Ex.pur (P_move rfl) rfl ?_
        refine Ex.stepA (A_buildSlice (k := 79) (enc := intE) (l := [_]) sl29 ty3 ze3 (by decide) rfl rfl rfl rfl (by decide) (by decide) (fun _ => rfl) rfl) rfl rfl ?_
        first
          | (refine Ex.stepM (M_append_own rfl rfl rfl rfl sl29 ti3 (by decide) (by decide) (fun _ => rfl) (fun _ => rfl) ?_ rfl) ?_; iterate 1 (· first | assumption | rfl | omega | (simp; done) | (simp; omega) | (simp_all; done)))
          | (refine Ex.stepM (M_append_sl rfl rfl rfl sl29 ti3 (by decide) (by decide) (fun _ => rfl) (fun _ => rfl) ?_ rfl) ?_; iterate 1 (· first | assumption | rfl | omega | (simp; done) | (simp; omega) | (simp_all; done)))
        refine Ex.pur (P_assign rfl) rfl ?_
        refine Ex.nil ?_
        refine X.region ?_
        refine Ex.pur (P_add rfl rfl (IntWalk.i64_in _ (by omega))) rfl ?_
        refine Ex.pur (P_move rfl) rfl ?_
        refine Ex.nil ?_
        refine ⟨k + 1, Imp.of (by (repeat' (first | exact True.intro | (refine And.intro ⟨_, rfl, ?_⟩ ?_; (first | exact LeV.refl _ | exact LeV.any _ | exact LeB.refl _ | (refine LeV.eq ?_; simp; done) | (refine LeV.eq ?_; congr 1; omega) | (refine LeV.eq ?_; dsimp only; congr 1; omega) | (refine LeV.eq (congrArg (AV.int _) ?_); omega) | exact LeV.nils _ | exact LeB.row (by assumption) | (refine LeB.eq ?_; congr 1; omega) | (refine LeB.eq ?_; congr 1; simp only [cond_true, cond_false]; omega)))))) (by (repeat' (first | exact True.intro | (refine And.intro ⟨_, rfl, ?_⟩ ?_; (first | exact LeV.refl _ | exact LeV.any _ | exact LeB.refl _ | (refine LeV.eq ?_; simp; done) | (refine LeV.eq ?_; congr 1; omega) | (refine LeV.eq ?_; dsimp only; congr 1; omega) | (refine LeV.eq (congrArg (AV.int _) ?_); omega) | exact LeV.nils _ | exact LeB.row (by assumption) | (refine LeB.eq ?_; congr 1; omega) | (refine LeB.eq ?_; congr 1; simp only [cond_true, cond_false]; omega)))))), ?_, ?_⟩
        · first | trivial | omega | (refine ⟨?_, ?_⟩ <;> omega)
        · omega
      · try simp only [decide_eq_true_eq, decide_eq_false_iff_not, Bool.not_eq_true', Bool.not_eq_false', Bool.and_eq_true, Bool.or_eq_true, Bool.and_eq_false_iff, Bool.or_eq_false_iff, Int.not_lt, Int.not_le, Decidable.not_not] at hc4
        refine X.seq ?_
        refine X.region ?_
        refine Ex.pur (P_move rfl) rfl ?_
        refine Ex.pur (P_eql rfl rfl) rfl ?_
        refine Ex.pur (P_assign rfl) rfl ?_
        refine Ex.nil ?_
        refine X.cond rfl (fun hc5 => ?_) (fun hc5 => ?_)
        · try simp only [decide_eq_true_eq, decide_eq_false_iff_not, Bool.not_eq_true', Bool.not_eq_false', Bool.and_eq_true, Bool.or_eq_true, Bool.and_eq_false_iff, Bool.or_eq_false_iff, Int.not_lt, Int.not_le, Decidable.not_not] at hc5
          have hc6 : m.pV p.Value = 3 := hc5
          have hch : choice m l x p = p.Value := by unfold choice; rw [if_pos (by omega), if_neg (by omega), if_pos hc6]
          rw [hch] at hrow2
          refine X.region ?_
          refine Ex.pur (P_move rfl) rfl ?_
          refine Ex.pur (P_assign rfl) rfl ?_
          refine Ex.nil ?_
          refine X.region ?_
          refine Ex.pur (P_move rfl) rfl ?_
          refine Ex.pur (P_move rfl) rfl ?_
          refine Ex.stepA (A_buildSlice (k := 79) (enc := intE) (l := [_]) sl29 ty3 ze3 (by decide) rfl rfl rfl rfl (by decide) (by decide) (fun _ => rfl) rfl) rfl rfl ?_
          first
            | (refine Ex.stepM (M_append_own rfl rfl rfl rfl sl29 ti3 (by decide) (by decide) (fun _ => rfl) (fun _ => rfl) ?_ rfl) ?_; iterate 1 (· first | assumption | rfl | omega | (simp; done) | (simp; omega) | (simp_all; done)))
            | (refine Ex.stepM (M_append_sl rfl rfl rfl sl29 ti3 (by decide) (by decide) (fun _ => rfl) (fun _ => rfl) ?_ rfl) ?_; iterate 1 (· first | assumption | rfl | omega | (simp; done) | (simp; omega) | (simp_all; done)))
          refine Ex.pur (P_assign rfl) rfl ?_
          refine Ex.nil ?_
          refine X.region ?_
          refine Ex.pur (P_add rfl rfl (IntWalk.i64_in _ (by omega))) rfl ?_
          refine Ex.pur (P_move rfl) rfl ?_
          refine Ex.nil ?_
          refine ⟨k + 1, Imp.of (by (repeat' (first | exact True.intro | (refine And.intro ⟨_, rfl, ?_⟩ ?_; (first | exact LeV.refl _ | exact LeV.any _ | exact LeB.refl _ | (refine LeV.eq ?_; simp; done) | (refine LeV.eq ?_; congr 1; omega) | (refine LeV.eq ?_; dsimp only; congr 1; omega) | (refine LeV.eq (congrArg (AV.int _) ?_); omega) | exact LeV.nils _ | exact LeB.row (by assumption) | (refine LeB.eq ?_; congr 1; omega) | (refine LeB.eq ?_; congr 1; simp only [cond_true, cond_false]; omega)))))) (by (repeat' (first | exact True.intro | (refine And.intro ⟨_, rfl, ?_⟩ ?_; (first | exact LeV.refl _ | exact LeV.any _ | exact LeB.refl _ | (refine LeV.eq ?_; simp; done) | (refine LeV.eq ?_; congr 1; omega) | (refine LeV.eq ?_; dsimp only; congr 1; omega) | (refine LeV.eq (congrArg (AV.int _) ?_); omega) | exact LeV.nils _ | exact LeB.row (by assumption) | (refine LeB.eq ?_; congr 1; omega) | (refine LeB.eq ?_; congr 1; simp only [cond_true, cond_false]; omega)))))), ?_, ?_⟩
          · first | trivial | omega | (refine ⟨?_, ?_⟩ <;> omega)
          · omega
        · try simp only [decide_eq_true_eq, decide_eq_false_iff_not, Bool.not_eq_true', Bool.not_eq_false', Bool.and_eq_true, Bool.or_eq_true, Bool.and_eq_false_iff, Bool.or_eq_false_iff, Int.not_lt, Int.not_le, Decidable.not_not] at hc5
          have hc6 : ¬ m.pV p.Value = 3 := hc5
          have hch : choice m l x p = 0 := by unfold choice; rw [if_pos (by omega), if_neg (by omega), if_neg hc6]
          rw [hch] at hrow2
          refine X.region ?_
          refine Ex.pur (P_assign rfl) rfl ?_
          refine Ex.nil ?_
          refine X.region ?_
          refine Ex.pur (P_move rfl) rfl ?_
          refine Ex.pur (P_move rfl) rfl ?_
          refine Ex.stepA (A_buildSlice (k := 79) (enc := intE) (l := [_]) sl29 ty3 ze3 (by decide) rfl rfl rfl rfl (by decide) (by decide) (fun _ => rfl) rfl) rfl rfl ?_
          first
            | (refine Ex.stepM (M_append_own rfl rfl rfl rfl sl29 ti3 (by decide) (by decide) (fun _ => rfl) (fun _ => rfl) ?_ rfl) ?_; iterate 1 (· first | assumption | rfl | omega | (simp; done) | (simp; omega) | (simp_all; done)))
            | (refine Ex.stepM (M_append_sl rfl rfl rfl sl29 ti3 (by decide) (by decide) (fun _ => rfl) (fun _ => rfl) ?_ rfl) ?_; iterate 1 (· first | assumption | rfl | omega | (simp; done) | (simp; omega) | (simp_all; done)))
          refine Ex.pur (P_assign rfl) rfl ?_
          refine Ex.nil ?_
          refine X.region ?_
          refine Ex.pur (P_add rfl rfl (IntWalk.i64_in _ (by omega))) rfl ?_
          refine Ex.pur (P_move rfl) rfl ?_
          refine Ex.nil ?_
          refine ⟨k + 1, Imp.of (by (repeat' (first | exact True.intro | (refine And.intro ⟨_, rfl, ?_⟩ ?_; (first | exact LeV.refl _ | exact LeV.any _ | exact LeB.refl _ | (refine LeV.eq ?_; simp; done) | (refine LeV.eq ?_; congr 1; omega) | (refine LeV.eq ?_; dsimp only; congr 1; omega) | (refine LeV.eq (congrArg (AV.int _) ?_); omega) | exact LeV.nils _ | exact LeB.row (by assumption) | (refine LeB.eq ?_; congr 1; omega) | (refine LeB.eq ?_; congr 1; simp only [cond_true, cond_false]; omega)))))) (by (repeat' (first | exact True.intro | (refine And.intro ⟨_, rfl, ?_⟩ ?_; (first | exact LeV.refl _ | exact LeV.any _ | exact LeB.refl _ | (refine LeV.eq ?_; simp; done) | (refine LeV.eq ?_; congr 1; omega) | (refine LeV.eq ?_; dsimp only; congr 1; omega) | (refine LeV.eq (congrArg (AV.int _) ?_); omega) | exact LeV.nils _ | exact LeB.row (by assumption) | (refine LeB.eq ?_; congr 1; omega) | (refine LeB.eq ?_; congr 1; simp only [cond_true, cond_false]; omega)))))), ?_, ?_⟩
          · first | trivial | omega | (refine ⟨?_, ?_⟩ <;> omega)
          · omega
    · try simp only [decide_eq_true_eq, decide_eq_false_iff_not, Bool.not_eq_true', Bool.not_eq_false', Bool.and_eq_true, Bool.or_eq_true, Bool.and_eq_false_iff, Bool.or_eq_false_iff, Int.not_lt, Int.not_le, Decidable.not_not] at hc3
      have hch : choice m l x p = c0 := by unfold choice; rw [if_neg (by omega), hhd]
      rw [hch] at hrow2
      refine X.skip ?_
      refine X.region ?_
      refine Ex.pur (P_move rfl) rfl ?_
      refine Ex.pur (P_move rfl) rfl ?_
      refine Ex.stepA (A_buildSlice (k := 79) (enc := intE) (l := [_]) sl29 ty3 ze3 (by decide) rfl rfl rfl rfl (by decide) (by decide) (fun _ => rfl) rfl) rfl rfl ?_
      first
        | (refine Ex.stepM (M_append_own rfl rfl rfl rfl sl29 ti3 (by decide) (by decide) (fun _ => rfl) (fun _ => rfl) ?_ rfl) ?_; iterate 1 (· first | assumption | rfl | omega | (simp; done) | (simp; omega) | (simp_all; done)))
        | (refine Ex.stepM (M_append_sl rfl rfl rfl sl29 ti3 (by decide) (by decide) (fun _ => rfl) (fun _ => rfl) ?_ rfl) ?_; iterate 1 (· first | assumption | rfl | omega | (simp; done) | (simp; omega) | (simp_all; done)))
      refine Ex.pur (P_assign rfl) rfl ?_
      refine Ex.nil ?_
      refine X.region ?_
      refine Ex.pur (P_add rfl rfl (IntWalk.i64_in _ (by omega))) rfl ?_
      refine Ex.pur (P_move rfl) rfl ?_
      refine Ex.nil ?_
      refine ⟨k + 1, Imp.of (by (repeat' (first | exact True.intro | (refine And.intro ⟨_, rfl, ?_⟩ ?_; (first | exact LeV.refl _ | exact LeV.any _ | exact LeB.refl _ | (refine LeV.eq ?_; simp; done) | (refine LeV.eq ?_; congr 1; omega) | (refine LeV.eq ?_; dsimp only; congr 1; omega) | (refine LeV.eq (congrArg (AV.int _) ?_); omega) | exact LeV.nils _ | exact LeB.row (by assumption) | (refine LeB.eq ?_; congr 1; omega) | (refine LeB.eq ?_; congr 1; simp only [cond_true, cond_false]; omega)))))) (by (repeat' (first | exact True.intro | (refine And.intro ⟨_, rfl, ?_⟩ ?_; (first | exact LeV.refl _ | exact LeV.any _ | exact LeB.refl _ | (refine LeV.eq ?_; simp; done) | (refine LeV.eq ?_; congr 1; omega) | (refine LeV.eq ?_; dsimp only; congr 1; omega) | (refine LeV.eq (congrArg (AV.int _) ?_); omega) | exact LeV.nils _ | exact LeB.row (by assumption) | (refine LeB.eq ?_; congr 1; omega) | (refine LeB.eq ?_; congr 1; simp only [cond_true, cond_false]; omega)))))), ?_, ?_⟩
      · first | trivial | omega | (refine ⟨?_, ?_⟩ <;> omega)
      · omega
  · try simp only [decide_eq_true_eq, decide_eq_false_iff_not, Bool.not_eq_true', Bool.not_eq_false', Bool.and_eq_true, Bool.or_eq_true, Bool.and_eq_false_iff, Bool.or_eq_false_iff, Int.not_lt, Int.not_le, Decidable.not_not] at hc2
    have hkl : k = (dotsK l l.length).length := by omega
    subst hkl
    have hfin : ((dotsK l l.length).take (dotsK l l.length).length).map (ruleAt m l) = ruleD m l := by rw [List.take_length]; rfl
    refine X.exit ?_
    refine X.seq ?_
    refine X.region ?_
    refine Ex.pur (P_move rfl) rfl ?_
    refine Ex.pur (P_assign rfl) rfl ?_
    refine Ex.pur (P_assign rfl) rfl ?_
    refine Ex.nil ?_
    refine X.ret ?_
    refine RetQ.imp (Imp.freeze (k := 9) rfl) ?_
    refine RetQ.ret (.many (by decide) (.cons (.tmp rfl (LeV.eq ?_)) (.cons (.tmp rfl (LeV.eq ?_)) .nil)))
    all_goals (first | (simp [hc1]; done) | (rw [if_pos hc1, ← hfin]; rfl) | (rw [if_neg hc1]) | (rw [hc1]; rfl) | rfl)
end Go.Rse
