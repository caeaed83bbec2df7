/-
  Walks: the statement on all spellings.
-/
import Derived.Test.YteecbmgddacioaaRfR
namespace Go.Rse
open Go Go.Proofs
set_option linter.unusedVariables false
set_option linter.unusedSimpArgs false
attribute [local irreducible] Pur StepA StepM Ex X ExG Fn Imp LeV LeB FnO It YStep
theorem allE_len (m : Mn) (t : Tm) : (allE m t).length ≤ 72 := by
  have := alO_len m t 8
  unfold allE; split
  · omega
  · simp
theorem rstV_len (m : Mn) (t : Tm) : (rstV m t).length ≤ 401 := by
  rw [← (rf_law m t).2]
  have := rfP_len m t 8
  unfold rfV; split
  · exact this
  · simp
theorem timV_len (m : Mn) : (timV m).length ≤ 6000 := by
  by_cases h : ckM m = 0
  · exact (tab_law h).2.2.2.2
  · unfold timV; rw [if_neg h]; simp
attribute [local irreducible] allE bthE rstV rstE timV
theorem C_tactuslaw22_SpellAll (m : Mn) (t : Tm) : Fn Try.prog 18 [mnA m, tmA t] (.bool true) := by
  have hA := allE_len m t
  have hR := rstV_len m t
  have hT := timV_len m
  have hRf := C_tactusref22_Rests m t
  rw [(rf_law m t).1, (rf_law m t).2] at hRf
  refine Fn.go Try.func18 Try.ntmps18 (fun g w d => ?_)
  refine X.seq ?_
  refine X.region ?_
  refine Ex.ba ?_
  refine Ex.ba ?_
  refine Ex.pu ?_
  refine Ex.nil ?_
  refine X.seq ?_
  refine X.region ?_
  iterate 2 refine Ex.pu ?_
  refine Ex.ca (C_spell_All m t) ?_
  iterate 5 refine Ex.pu ?_
  refine Ex.nil ?_
  refine X.seq ?_
  refine X.region ?_
  iterate 2 refine Ex.pu ?_
  refine Ex.ca (C_tactusref22_All m t) ?_
  iterate 5 refine Ex.pu ?_
  refine Ex.nil ?_
  refine X.seq ?_
  refine X.seq ?_
  refine X.region ?_
  iterate 2 refine Ex.pu ?_
  refine Ex.ca (C_sps_eq (allE m t) (by omega)) ?_
  refine Ex.pu ?_
  refine ExF.at 4 ?_
  refine ExF.pu ?_
  iterate 3 refine ExF.gi ?_
  refine ExF.done ?_
  refine Ex.pu ?_
  refine Ex.nil ?_
  refine X.cd rfl (fun hc1 => ?_) (fun hc1 => ?_)
  · simp at hc1
  refine X.skip ?_
  refine X.seq ?_
  refine X.region ?_
  iterate 2 refine Ex.pu ?_
  refine Ex.ca (C_spell_Rests m t) ?_
  iterate 5 refine Ex.pu ?_
  refine Ex.nil ?_
  refine X.seq ?_
  refine X.region ?_
  iterate 2 refine Ex.pu ?_
  refine Ex.ca hRf ?_
  iterate 5 refine Ex.pu ?_
  refine Ex.nil ?_
  refine X.seq ?_
  refine X.region ?_
  refine Ex.pu ?_
  refine Ex.ca (C_spell_Times m) ?_
  iterate 5 refine Ex.pu ?_
  refine Ex.nil ?_
  refine X.seq ?_
  refine X.region ?_
  refine Ex.pu ?_
  refine Ex.ca (C_tactusref22_Times m) ?_
  iterate 5 refine Ex.pu ?_
  refine Ex.nil ?_
  refine X.seq ?_
  refine X.region ?_
  iterate 2 refine Ex.pu ?_
  refine Ex.ca (C_ints_eq (rstV m t) (by omega)) ?_
  refine ExF.at 3 ?_
  refine ExF.pu ?_
  iterate 3 refine ExF.gi ?_
  iterate 2 refine ExF.pu ?_
  iterate 2 refine ExF.gi ?_
  refine ExF.cg (C_times_eq (timV m) (by omega)) ?_
  iterate 2 refine ExF.pu ?_
  iterate 3 refine ExF.gi ?_
  iterate 2 refine ExF.pu ?_
  refine ExF.cg C_tactuslaw22_awake ?_
  refine ExF.done ?_
  iterate 2 refine Ex.pu ?_
  refine Ex.nil ?_
  refine X.ret ?_
  refine RetQ.ret (.one (.tmp rfl (LeV.eq ?_)))
  all_goals (simp)
end Go.Rse
