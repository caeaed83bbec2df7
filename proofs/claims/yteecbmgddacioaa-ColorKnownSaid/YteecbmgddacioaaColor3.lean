/-
  Walks: pairs of minor color.
-/
import Derived.Test.YteecbmgddacioaaColor2
namespace Go.Rse
open Go Go.Proofs
set_option linter.unusedVariables false
set_option linter.unusedSimpArgs false
attribute [local irreducible] Pur StepA StepM Ex X ExG Fn Imp LeV LeB FnO It YStep
theorem frB_eq (o : Option Sg) : frB o = !(o.isSome && clr (nearS o)) := by cases o <;> simp [frB, nearS]
theorem pairB_no {l : List Sg} {i : Int} (h : (((((l.length : Int) ≤ i + 1 ∨ clr (l.getD i.toNat default) = false) ∨ ¬ (l.getD i.toNat default).Value = 4) ∨ clr (l.getD (i + 1).toNat default) = false) ∨ ¬ (l.getD (i + 1).toNat default).Value = 5)) : pairB l i = false := by
  unfold pairB
  rcases h with (((h | h) | h) | h) | h
  · rw [decide_eq_false (show ¬ i + 1 < (l.length : Int) by omega)]; simp
  · rw [h]; simp
  · rw [decide_eq_false h]; simp
  · rw [h]; simp
  · rw [decide_eq_false h]; simp
theorem pairB_dot {l : List Sg} {i : Int} (h : i + 2 < (l.length : Int) ∧ (l.getD (i + 2).toNat default).Kind = 3) : pairB l i = false := by
  unfold pairB; rw [decide_eq_true h.1, decide_eq_true h.2]; simp
theorem pairB_yes {l : List Sg} {i : Int} (h : (((i + 1 < (l.length : Int) ∧ clr (l.getD i.toNat default) = true) ∧ (l.getD i.toNat default).Value = 4) ∧ clr (l.getD (i + 1).toNat default) = true) ∧ (l.getD (i + 1).toNat default).Value = 5) : pairB l i = (!(decide (i + 2 < (l.length : Int)) && decide ((l.getD (i + 2).toNat default).Kind = 3)) && frB (nearF l (-1) (i - 1)) && frB (nearF l 1 (i + 2))) := by
  unfold pairB
  rw [decide_eq_true h.1.1.1.1, h.1.1.1.2, decide_eq_true h.1.1.2, h.1.2, decide_eq_true h.2]; rfl
attribute [local irreducible] pairB nearF frB nearS clr
theorem C_color_pair (l : List Sg) (hl : l.length ≤ 4000000000) (i : Int) (h0 : 0 ≤ i) (h1 : i < (l.length : Int)) : Fn Try.prog 166 [sgsA l, iv i] (.bool (pairB l i)) := by
  refine Fn.go Try.func166 Try.ntmps166 (fun g w d => ?_)
  refine X.seq ?_
  refine X.region ?_
  refine Ex.pu ?_
  refine Ex.nil ?_
  refine X.seq ?_
  refine X.seq ?_
  refine X.region ?_
  iterate 5 refine Ex.pu ?_
  refine ExF.at 5 ?_
  refine ExF.pu ?_
  iterate 4 refine ExF.gi ?_
  refine ExF.cg (C_color_colored _) ?_
  refine ExF.gi ?_
  iterate 2 refine ExF.pu ?_
  iterate 6 refine ExF.gi ?_
  iterate 2 refine ExF.pu ?_
  iterate 5 refine ExF.gi ?_
  refine ExF.cg (C_color_colored _) ?_
  refine ExF.gi ?_
  iterate 2 refine ExF.pu ?_
  iterate 7 refine ExF.gi ?_
  refine ExF.done ?_
  refine Ex.pu ?_
  refine Ex.nil ?_
  refine X.cd rfl (fun hc1 => ?_) (fun hc1 => ?_)
  · refine X.seq ?_
    refine X.region ?_
    refine Ex.pu ?_
    refine Ex.nil ?_
    refine X.ret ?_
    refine RetQ.ret (.one (.tmp rfl (LeV.eq ?_)))
    all_goals (rw [pairB_no hc1])
  refine X.skip ?_
  refine X.seq ?_
  refine X.region ?_
  iterate 5 refine Ex.pu ?_
  refine ExF.at 5 ?_
  refine ExF.pu ?_
  iterate 7 refine ExF.gi ?_
  refine ExF.done ?_
  iterate 2 refine Ex.pu ?_
  refine Ex.nil ?_
  refine X.seq ?_
  refine X.region ?_
  iterate 2 refine Ex.pu ?_
  refine ExF.at 2 ?_
  refine ExF.pu ?_
  iterate 3 refine ExF.gi ?_
  refine ExF.cg (C_color_free l hl (i - 1) (-1) (.inr rfl) (by omega) (by omega) (by omega)) ?_
  iterate 2 refine ExF.pu ?_
  iterate 3 refine ExF.gi ?_
  refine ExF.cg (C_color_free l hl (i + 2) 1 (.inl rfl) (by omega) (by omega) (by omega)) ?_
  refine ExF.done ?_
  iterate 2 refine Ex.pu ?_
  refine Ex.nil ?_
  refine X.ret ?_
  refine RetQ.ret (.one (.tmp rfl (LeV.eq ?_)))
  all_goals (rw [pairB_yes hc1])
theorem C_tactusref11_pair (m : Mn) (l : List Sg) (hl : l.length ≤ 4000000000) (i : Int) (h0 : 0 ≤ i) (h1 : i < (l.length : Int)) : Fn Try.prog 137 [mnA m, sgsA l, iv i] (.bool (decide (m.p 4 = 2) && pairB l i)) := by
  refine Fn.go Try.func137 Try.ntmps137 (fun g w d => ?_)
  refine X.seq ?_
  refine X.region ?_
  refine Ex.ba ?_
  refine Ex.pu ?_
  refine Ex.nil ?_
  refine X.seq ?_
  refine X.seq ?_
  refine X.region ?_
  iterate 5 refine Ex.pu ?_
  refine ExF.at 5 ?_
  refine ExF.pu ?_
  iterate 4 refine ExF.gi ?_
  refine ExF.cg (C_tactusref11_colored _) ?_
  refine ExF.gi ?_
  iterate 2 refine ExF.pu ?_
  iterate 6 refine ExF.gi ?_
  iterate 2 refine ExF.pu ?_
  iterate 5 refine ExF.gi ?_
  refine ExF.cg (C_tactusref11_colored _) ?_
  refine ExF.gi ?_
  iterate 2 refine ExF.pu ?_
  iterate 7 refine ExF.gi ?_
  iterate 2 refine ExF.pu ?_
  refine ExF.gi ?_
  refine ExF.cg (C_tactusref05_P m 4) ?_
  refine ExF.gi ?_
  refine ExF.done ?_
  refine Ex.pu ?_
  refine Ex.nil ?_
  refine X.cd rfl (fun hc1 => ?_) (fun hc1 => ?_)
  · have hP : (decide (m.p 4 = 2) && pairB l i) = false := by
      rcases hc1 with h | h
      · rw [pairB_no h]; simp
      · rw [decide_eq_false h]; rfl
    refine X.seq ?_
    refine X.region ?_
    refine Ex.pu ?_
    refine Ex.nil ?_
    refine X.ret ?_
    refine RetQ.ret (.one (.tmp rfl (LeV.eq ?_)))
    all_goals (rw [hP])
  refine X.skip ?_
  refine X.seq ?_
  refine X.seq ?_
  refine X.region ?_
  iterate 5 refine Ex.pu ?_
  refine ExF.at 5 ?_
  refine ExF.pu ?_
  iterate 7 refine ExF.gi ?_
  refine ExF.done ?_
  refine Ex.pu ?_
  refine Ex.nil ?_
  refine X.cd rfl (fun hc2 => ?_) (fun hc2 => ?_)
  · have hP := pairB_dot hc2
    refine X.seq ?_
    refine X.region ?_
    refine Ex.pu ?_
    refine Ex.nil ?_
    refine X.ret ?_
    refine RetQ.ret (.one (.tmp rfl (LeV.eq ?_)))
    all_goals (rw [hP]; simp)
  have hP := pairB_yes hc1.1
  have hQ : (decide (i + 2 < (l.length : Int)) && decide ((l.getD (i + 2).toNat default).Kind = 3)) = false := by
    rcases hc2 with h | h
    · rw [decide_eq_false (show ¬ i + 2 < (l.length : Int) by omega)]; rfl
    · rw [decide_eq_false h]; simp
  rw [hQ, frB_eq, frB_eq] at hP
  refine X.skip ?_
  refine X.seq ?_
  refine X.region ?_
  iterate 3 refine Ex.pu ?_
  refine Ex.ca (C_tactusref11_near l hl (i - 1) (-1) (.inr rfl) (by omega) (by omega) (by omega)) ?_
  iterate 3 refine Ex.pu ?_
  refine Ex.al ?_
  refine Ex.mo ?_
  refine Ex.pu ?_
  refine Ex.nil ?_
  refine X.seq ?_
  refine X.region ?_
  iterate 3 refine Ex.pu ?_
  refine Ex.ca (C_tactusref11_near l hl (i + 2) 1 (.inl rfl) (by omega) (by omega) (by omega)) ?_
  iterate 3 refine Ex.pu ?_
  refine Ex.al ?_
  refine Ex.mo ?_
  refine Ex.pu ?_
  refine Ex.nil ?_
  refine X.seq ?_
  refine X.region ?_
  refine Ex.pu ?_
  refine ExF.at 1 ?_
  refine ExF.pu ?_
  refine ExF.gi ?_
  refine ExF.cg (C_tactusref11_colored _) ?_
  iterate 3 refine ExF.pu ?_
  iterate 3 refine ExF.gi ?_
  refine ExF.cg (C_tactusref11_colored _) ?_
  iterate 2 refine ExF.gi ?_
  refine ExF.done ?_
  iterate 2 refine Ex.pu ?_
  refine Ex.nil ?_
  refine X.ret ?_
  refine RetQ.ret (.one (.tmp rfl (LeV.eq ?_)))
  all_goals (rw [hP, decide_eq_true hc1.2]; rfl)
end Go.Rse
