/-
  Walks: the dots of a run.
-/
import Derived.Test.YteecbmgddacioaaDot1
namespace Go.Rse
open Go Go.Proofs
set_option linter.unusedVariables false
set_option linter.unusedSimpArgs false
attribute [local irreducible] Pur StepA StepM Ex X ExG Fn Imp LeV LeB FnO It YStep
/-- The places of the dots among the first k. -/
def dotsK (l : List Sg) : Nat → List Int
  | 0 => []
  | k + 1 => dotsK l k ++ (match l[k]? with | some s => if s.Kind = 3 then [(k : Int)] else [] | none => [])
theorem dotsK_len (l : List Sg) : ∀ k, (dotsK l k).length ≤ k
  | 0 => Nat.le_refl _
  | k + 1 => by
    have := dotsK_len l k
    simp only [dotsK, List.length_append]
    split
    · split <;> simp <;> omega
    · simp; omega
theorem C_dot_dots (l : List Sg) (hl : l.length ≤ 60) : Fn Try.prog 115 [sgsA l] (intsA (dotsK l l.length)) := by
  refine Fn.intro (ts := [(0, sgsA l)]) (rv := [.tmp 2]) (n := 22) (by kernel_rfl) Try.func115 rfl Try.ntmps115 rfl rfl rfl (by simp) (fun g w d => ?_)
  refine X.seq ?_
  refine X.region ?_
  refine Ex.pur (P_assign rfl) rfl ?_
  refine Ex.nil ?_
  refine X.seq ?_
  refine X.region ?_
  refine Ex.pur (P_assign rfl) rfl ?_
  refine Ex.nil ?_
  refine X.seq ?_
  refine X.seq ?_
  refine X.imp (Imp.mkrow intE 3 1 3 3 rfl rfl) ?_
  refine X.region ?_
  refine Ex.pur (P_move rfl) rfl ?_
  first
    | refine Ex.pur (P_len_sl rfl sl41) rfl ?_
    | refine Ex.pur (P_len_own rfl rfl sl41) rfl ?_
    | refine Ex.pur (P_len_nils rfl sl41) rfl ?_
  refine Ex.pur (P_move rfl) rfl ?_
  refine Ex.nil ?_
  refine X.block ?_
  refine X.loop (ι := Nat) (fun (k : Nat) => ⟨[(3, .own 3), (6, sgsA l), (7, iv l.length), (8, iv (k : Int))], [(3, .row intE (dotsK l k) 3 1)]⟩) (fun (k : Nat) => k ≤ l.length) (fun (k : Nat) => l.length - k) 0 ?_ ?_ (fun k hk => ?_)
  · exact Imp.of (by (repeat' (first | exact True.intro | (refine And.intro ⟨_, rfl, ?_⟩ ?_; (first | exact LeV.refl _ | exact LeV.any _ | exact LeB.refl _ | (refine LeV.eq ?_; simp; done) | (refine LeV.eq ?_; congr 1; omega) | (refine LeV.eq ?_; dsimp only; congr 1; omega) | (refine LeV.eq (congrArg (AV.int _) ?_); omega) | exact LeV.nils _ | exact LeB.row (by assumption) | (refine LeB.eq ?_; congr 1; omega) | (refine LeB.eq ?_; congr 1; simp only [cond_true, cond_false]; omega)))))) (by (repeat' (first | exact True.intro | (refine And.intro ⟨_, rfl, ?_⟩ ?_; (first | exact LeV.refl _ | exact LeV.any _ | exact LeB.refl _ | (refine LeV.eq ?_; simp; done) | (refine LeV.eq ?_; congr 1; omega) | (refine LeV.eq ?_; dsimp only; congr 1; omega) | (refine LeV.eq (congrArg (AV.int _) ?_); omega) | exact LeV.nils _ | exact LeB.row (by assumption) | (refine LeB.eq ?_; congr 1; omega) | (refine LeB.eq ?_; congr 1; simp only [cond_true, cond_false]; omega))))))
  · first | trivial | omega | (refine ⟨?_, ?_⟩ <;> omega)
  refine X.seq ?_
  refine X.region ?_
  refine Ex.pur (P_lss rfl rfl) rfl ?_
  refine Ex.nil ?_
  refine X.seq ?_
  refine X.cond rfl (fun hc1 => ?_) (fun hc1 => ?_)
  · try simp only [decide_eq_true_eq, decide_eq_false_iff_not, Bool.not_eq_true', Bool.not_eq_false', Bool.and_eq_true, Bool.or_eq_true, Bool.and_eq_false_iff, Bool.or_eq_false_iff, Int.not_lt, Int.not_le, Decidable.not_not] at hc1
    obtain ⟨s, hs⟩ : ∃ s, l[k]? = some s := ⟨_, List.getElem?_eq_getElem (by omega)⟩
    have hs2 : l[(k : Int).toNat]? = some s := by simpa using hs
    have hdl := dotsK_len l k
    refine X.skip ?_
    refine X.seq ?_
    refine X.block ?_
    refine X.seq ?_
    refine X.region ?_
    refine Ex.pur (P_move rfl) rfl ?_
    first
      | refine Ex.pur (P_index_sl rfl rfl sl41 ty64 (fun _ => rfl) (by omega) (by assumption)) rfl ?_
      | refine Ex.pur (P_index_own rfl rfl rfl sl41 ty64 (by omega) (by omega)) rfl ?_
    first
      | refine Ex.pur (P_load_ept_all rfl rfl rfl ty64) rfl ?_
      | refine Ex.pur (P_load_ept_part rfl rfl rfl rfl ty64) rfl ?_
    refine Ex.stepA (A_alloc (k := 5) zc64) rfl rfl ?_
    refine Ex.pur (P_assign rfl) rfl ?_
    refine Ex.stepM (M_store_agg rfl rfl rfl rfl ty64 rfl (leB rfl)) ?_
    refine Ex.nil ?_
    refine X.seq ?_
    refine X.region ?_
    first
      | refine Ex.pur (P_fieldAddr_ptr rfl fo64_0) rfl ?_
      | refine Ex.pur (P_fieldAddr_ept rfl fo64_0) rfl ?_
    first
      | refine Ex.pur (P_load_box rfl rfl rfl ty3) rfl ?_
      | refine Ex.pur (P_load_ept rfl rfl rfl ty3) rfl ?_
      | refine Ex.pur (P_load_row rfl rfl (by assumption) rfl rfl ty3) rfl ?_
    refine Ex.pur (P_eql rfl rfl) rfl ?_
    refine Ex.nil ?_
    refine X.cond rfl (fun hc2 => ?_) (fun hc2 => ?_)
    · try simp only [decide_eq_true_eq, decide_eq_false_iff_not, Bool.not_eq_true', Bool.not_eq_false', Bool.and_eq_true, Bool.or_eq_true, Bool.and_eq_false_iff, Bool.or_eq_false_iff, Int.not_lt, Int.not_le, Decidable.not_not] at hc2
      have hrow2 : dotsK l k ++ [(k : Int)] = dotsK l (k + 1) := by simp [dotsK, hs, hc2]
      refine X.region ?_
      refine Ex.pur (P_move rfl) rfl ?_
      refine Ex.pur (P_move rfl) rfl ?_
      refine Ex.stepA (A_buildSlice (k := 18) (enc := intE) (l := [_]) sl29 ty3 ze3 (by decide) rfl rfl rfl rfl (by decide) (by decide) (fun _ => rfl) rfl) rfl rfl ?_
      first
        | (refine Ex.stepM (M_append_own rfl rfl rfl rfl sl29 ti3 (by decide) (by decide) (fun _ => rfl) (fun _ => rfl) ?_ rfl) ?_; iterate 1 (· first | assumption | rfl | omega | (simp; done) | (simp; omega) | (simp_all; done)))
        | (refine Ex.stepM (M_append_sl rfl rfl rfl sl29 ti3 (by decide) (by decide) (fun _ => rfl) (fun _ => rfl) ?_ rfl) ?_; iterate 1 (· first | assumption | rfl | omega | (simp; done) | (simp; omega) | (simp_all; done)))
      refine Ex.pur (P_assign rfl) rfl ?_
      refine Ex.nil ?_
      refine X.region ?_
      refine Ex.pur (P_add rfl rfl (IntWalk.i64_in _ (by omega))) rfl ?_
      refine Ex.pur (P_move rfl) rfl ?_
      refine Ex.nil ?_
      refine ⟨k + 1, Imp.of (by (repeat' (first | exact True.intro | (refine And.intro ⟨_, rfl, ?_⟩ ?_; (first | exact LeV.refl _ | exact LeV.any _ | exact LeB.refl _ | (refine LeV.eq ?_; simp; done) | (refine LeV.eq ?_; congr 1; omega) | (refine LeV.eq ?_; dsimp only; congr 1; omega) | (refine LeV.eq (congrArg (AV.int _) ?_); omega) | exact LeV.nils _ | exact LeB.row (by assumption) | (refine LeB.eq ?_; congr 1; omega) | (refine LeB.eq ?_; congr 1; simp only [cond_true, cond_false]; omega)))))) (by (repeat' (first | exact True.intro | (refine And.intro ⟨_, rfl, ?_⟩ ?_; (first | exact LeV.refl _ | exact LeV.any _ | exact LeB.refl _ | (refine LeV.eq ?_; simp; done) | (refine LeV.eq ?_; congr 1; omega) | (refine LeV.eq ?_; dsimp only; congr 1; omega) | (refine LeV.eq (congrArg (AV.int _) ?_); omega) | exact LeV.nils _ | exact LeB.row (by assumption) | (refine LeB.eq ?_; congr 1; omega) | (refine LeB.eq ?_; congr 1; simp only [cond_true, cond_false]; omega)))))), ?_, ?_⟩
      · first | trivial | omega | (refine ⟨?_, ?_⟩ <;> omega)
      · omega
    · try simp only [decide_eq_true_eq, decide_eq_false_iff_not, Bool.not_eq_true', Bool.not_eq_false', Bool.and_eq_true, Bool.or_eq_true, Bool.and_eq_false_iff, Bool.or_eq_false_iff, Int.not_lt, Int.not_le, Decidable.not_not] at hc2
      have hrow2 : dotsK l k = dotsK l (k + 1) := by simp [dotsK, hs, hc2]
      refine X.skip ?_
      refine X.region ?_
      refine Ex.pur (P_add rfl rfl (IntWalk.i64_in _ (by omega))) rfl ?_
      refine Ex.pur (P_move rfl) rfl ?_
      refine Ex.nil ?_
      refine ⟨k + 1, Imp.of (by (repeat' (first | exact True.intro | (refine And.intro ⟨_, rfl, ?_⟩ ?_; (first | exact LeV.refl _ | exact LeV.any _ | exact LeB.refl _ | (refine LeV.eq ?_; simp; done) | (refine LeV.eq ?_; congr 1; omega) | (refine LeV.eq ?_; dsimp only; congr 1; omega) | (refine LeV.eq (congrArg (AV.int _) ?_); omega) | exact LeV.nils _ | exact LeB.row (by assumption) | (refine LeB.eq ?_; congr 1; omega) | (refine LeB.eq ?_; congr 1; simp only [cond_true, cond_false]; omega)))))) (by (repeat' (first | exact True.intro | (refine And.intro ⟨_, rfl, ?_⟩ ?_; (first | exact LeV.refl _ | exact LeV.any _ | exact LeB.refl _ | (refine LeV.eq ?_; simp; done) | (refine LeV.eq ?_; congr 1; omega) | (refine LeV.eq ?_; dsimp only; congr 1; omega) | (refine LeV.eq (congrArg (AV.int _) ?_); omega) | exact LeV.nils _ | exact LeB.row (by assumption) | (refine LeB.eq ?_; congr 1; omega) | (refine LeB.eq ?_; congr 1; simp only [cond_true, cond_false]; omega)))))), ?_, ?_⟩
      · first | trivial | omega | (refine ⟨?_, ?_⟩ <;> omega)
      · omega
  · try simp only [decide_eq_true_eq, decide_eq_false_iff_not, Bool.not_eq_true', Bool.not_eq_false', Bool.and_eq_true, Bool.or_eq_true, Bool.and_eq_false_iff, Bool.or_eq_false_iff, Int.not_lt, Int.not_le, Decidable.not_not] at hc1
    have hk2 : k = l.length := by omega
    subst hk2
    refine X.exit ?_
    refine X.seq ?_
    refine X.region ?_
    refine Ex.pur (P_move rfl) rfl ?_
    refine Ex.pur (P_assign rfl) rfl ?_
    refine Ex.nil ?_
    refine X.ret ?_
    refine RetQ.imp (Imp.freeze (k := 3) rfl) ?_
    refine RetQ.ret (.one (.tmp rfl (LeV.eq ?_)))
    all_goals (first | rfl | (simp_all; done))
end Go.Rse
