/-
  Walks: the statements on colored durations and on pairs.
-/
import Derived.Test.YteecbmgddacioaaDurs2
import Derived.Test.YteecbmgddacioaaKit1
namespace Go.Rse
open Go Go.Proofs
set_option linter.unusedVariables false
set_option linter.unusedSimpArgs false
attribute [local irreducible] Pur StepA StepM Ex X ExG Fn Imp LeV LeB FnO It YStep
def lineL : List Sg := [sgNote 4, sgBlk 4, sgBlk 5, sgNote 4]
def awT : List Tm := [⟨2, 1⟩, ⟨3, 2⟩, ⟨1, 2⟩, ⟨2, 1⟩]
theorem line_ck : ckD mHalf lineL = 0 := by rw [ckD_R]; decide
theorem line_pr : prL mHalf lineL = [1] := by unfold prL; rw [if_pos line_ck]; decide +kernel
theorem pr_R {m : Mn} {l : List Sg} {p : List Int} (h : ckR m l = 0) (h2 : pairL m l = p) : ckD m l = 0 ∧ prL m l = p := by
  have h1 : ckD m l = 0 := by rw [ckD_R]; exact h
  exact ⟨h1, by unfold prL; rw [if_pos h1]; exact h2⟩
theorem du_R {m : Mn} {l : List Sg} {mi p : List Int} {t : List Tm} (h : ckR m l = 0) (h2 : pairL m l = p) (h3 : mi.length = p.length) (h4 : mnOk mi = true) (h5 : dvK m l (markK p mi p.length) l.length = t) : duE m l mi = 0 ∧ duV m l mi = t := by
  obtain ⟨a, b⟩ := pr_R h h2
  have hE : duE m l mi = 0 := (duE_3 a (by rw [b]; exact h3) h4).symm
  refine ⟨hE, ?_⟩
  rw [← duV_y hE.symm]; unfold duM; rw [b]; exact h5
theorem aw_1 : duE mHalf lineL [2] = 0 ∧ duV mHalf lineL [2] = awT := du_R (p := [1]) (by decide) (by decide +kernel) (by decide) (by decide) (by decide +kernel)
theorem tm_dec (t : Tm) (n q : Int) : (decide (t.N = n) && (decide (t.D = q) && true)) = decide (t = ⟨n, q⟩) := by
  obtain ⟨a, b⟩ := t
  simp only [Tm.mk.injEq, Bool.and_true, Bool.decide_and]
theorem duV_len (m : Mn) (l : List Sg) (mi : List Int) : (duV m l mi).length ≤ l.length := by
  unfold duV; split
  · exact dvK_len m l _ _
  · simp
theorem ofV_len' (m : Mn) (l : List Sg) (n : Int) : (ofV m l n).length ≤ l.length := by
  have := prL_len m l
  unfold ofV; split
  · split
    · simp
    · rw [digP_len]; exact this
  · simp
theorem C_tactuslaw11_note (v : Int) : Fn Try.prog 82 [iv v] (sgA (sgNote v)) := by
  refine Fn.go Try.func82 Try.ntmps82 (fun g w d => ?_)
  refine X.seq ?_
  refine X.region ?_
  refine Ex.al ?_
  refine Ex.nil ?_
  refine X.seq ?_
  refine X.region ?_
  iterate 2 refine Ex.pu ?_
  refine Ex.mo ?_
  refine Ex.nil ?_
  refine X.ret ?_
  refine RetQ.ret (.one (.cellA rfl rfl rfl rfl ty64 (LeV.eq ?_)))
  all_goals (first | rfl | (simp_all; done))
theorem C_tactuslaw11_black (v : Int) : Fn Try.prog 78 [iv v] (sgA (sgBlk v)) := by
  refine Fn.go Try.func78 Try.ntmps78 (fun g w d => ?_)
  refine X.seq ?_
  refine X.region ?_
  refine Ex.al ?_
  refine Ex.nil ?_
  refine X.seq ?_
  refine X.region ?_
  iterate 2 refine Ex.pu ?_
  refine Ex.mo ?_
  refine Ex.nil ?_
  refine X.ret ?_
  refine RetQ.ret (.one (.cellA rfl rfl rfl rfl ty64 (LeV.eq ?_)))
  all_goals (first | rfl | (simp_all; done))
theorem C_tactuslaw11_circle  : Fn Try.prog 75 [] (mnA mCirc) := by
  refine Fn.go Try.func75 Try.ntmps75 (fun g w d => ?_)
  refine X.seq ?_
  refine X.region ?_
  refine Ex.al ?_
  refine Ex.nil ?_
  refine X.seq ?_
  refine X.region ?_
  refine Ex.pu ?_
  refine Ex.mo ?_
  refine Ex.nil ?_
  refine X.ret ?_
  refine RetQ.ret (.one (.cellA rfl rfl rfl rfl ty23 (LeV.eq ?_)))
  all_goals (first | rfl | (simp_all; done))
theorem C_tactuslaw11_half  : Fn Try.prog 73 [] (mnA mHalf) := by
  refine Fn.go Try.func73 Try.ntmps73 (fun g w d => ?_)
  refine X.seq ?_
  refine X.region ?_
  refine Ex.al ?_
  refine Ex.nil ?_
  refine X.seq ?_
  refine X.region ?_
  refine Ex.pu ?_
  refine Ex.mo ?_
  refine Ex.nil ?_
  refine X.ret ?_
  refine RetQ.ret (.one (.cellA rfl rfl rfl rfl ty23 (LeV.eq ?_)))
  all_goals (first | rfl | (simp_all; done))
theorem C_tactuslaw11_both  : Fn Try.prog 77 [] (mnA mBoth) := by
  refine Fn.go Try.func77 Try.ntmps77 (fun g w d => ?_)
  refine X.seq ?_
  refine X.region ?_
  refine Ex.al ?_
  refine Ex.nil ?_
  refine X.seq ?_
  refine X.region ?_
  refine Ex.pu ?_
  refine Ex.mo ?_
  refine Ex.nil ?_
  refine X.ret ?_
  refine RetQ.ret (.one (.cellA rfl rfl rfl rfl ty23 (LeV.eq ?_)))
  all_goals (first | rfl | (simp_all; done))
theorem C_tactuslaw11_line  : Fn Try.prog 85 [] (sgsA lineL) := by
  refine Fn.go Try.func85 Try.ntmps85 (fun g w d => ?_)
  refine X.seq ?_
  refine X.region ?_
  refine Ex.pu ?_
  refine Ex.nil ?_
  refine X.seq ?_
  refine X.region ?_
  refine Ex.ca (C_tactuslaw11_note _) ?_
  refine Ex.ca (C_tactuslaw11_black _) ?_
  refine Ex.ca (C_tactuslaw11_black _) ?_
  refine Ex.ca (C_tactuslaw11_note _) ?_
  refine Ex.bs sgE lineL ?_
  refine Ex.pu ?_
  refine Ex.nil ?_
  refine X.ret ?_
  refine RetQ.imp (Imp.freeze (k := 5) rfl) ?_
  refine RetQ.ret (.one (.tmp rfl (LeV.eq ?_)))
  all_goals (rfl)
theorem C_tactuslaw11_lasts (m : Mn) (v n q : Int) : Fn Try.prog 74 [mnA m, iv v, iv n, iv q] (.bool (decide (ckMV m v = 0) && decide ((if ckMV m v = 0 then durT m v else tmZ) = ⟨n, q⟩))) := by
  refine Fn.go Try.func74 Try.ntmps74 (fun g w d => ?_)
  refine X.seq ?_
  refine X.region ?_
  refine Ex.ba ?_
  refine Ex.pu ?_
  refine Ex.nil ?_
  refine X.seq ?_
  refine X.region ?_
  iterate 2 refine Ex.pu ?_
  refine Ex.ca (C_color_Dur m v) ?_
  iterate 3 refine Ex.pu ?_
  refine Ex.al ?_
  refine Ex.mo ?_
  refine Ex.pu ?_
  refine Ex.nil ?_
  refine X.seq ?_
  refine X.region ?_
  iterate 2 refine Ex.pu ?_
  refine ExF.at 2 ?_
  refine ExF.pu ?_
  iterate 5 refine ExF.gi ?_
  refine ExF.done ?_
  iterate 2 refine Ex.pu ?_
  refine Ex.nil ?_
  refine X.ret ?_
  refine RetQ.ret (.one (.tmp rfl (LeV.eq ?_)))
  all_goals (rw [tm_dec])
theorem C_tactuslaw11_pairs (m : Mn) (want : List Int) (l : List Sg) (hl : l.length ≤ 1000) : Fn Try.prog 79 [mnA m, intsA want, sgsA l] (.bool (decide (ckD m l = 0) && decide (prL m l = want))) := by
  have hpl := prL_len m l
  refine Fn.go Try.func79 Try.ntmps79 (fun g w d => ?_)
  refine X.seq ?_
  refine X.region ?_
  refine Ex.ba ?_
  refine Ex.pu ?_
  refine Ex.nil ?_
  refine X.seq ?_
  refine X.region ?_
  iterate 2 refine Ex.pu ?_
  refine Ex.co [(39, 39)] (C_color_Pairs' m l hl) ?_
  iterate 5 refine Ex.pu ?_
  refine Ex.nil ?_
  refine X.seq ?_
  refine X.imp (Imp.freeze (k := 39) rfl) ?_
  refine X.region ?_
  iterate 2 refine Ex.pu ?_
  refine ExF.at 2 ?_
  refine ExF.pu ?_
  iterate 2 refine ExF.gi ?_
  refine ExF.cg (C_tactuskit_SameInts (prL m l) want (by omega)) ?_
  refine ExF.done ?_
  iterate 2 refine Ex.pu ?_
  refine Ex.nil ?_
  refine X.ret ?_
  refine RetQ.ret (.one (.tmp rfl (LeV.eq ?_)))
  all_goals (rfl)
theorem C_lasts_T {m : Mn} {v n d : Int} (h : ckMV m v = 0) (h2 : durT m v = ⟨n, d⟩) : Fn Try.prog 74 [mnA m, iv v, iv n, iv d] (.bool true) := by
  have := C_tactuslaw11_lasts m v n d
  rw [if_pos h, h, h2, decide_eq_true rfl, decide_eq_true rfl] at this; exact this
theorem C_pairs_T {m : Mn} {l : List Sg} {p : List Int} (hl : l.length ≤ 1000) (h : ckR m l = 0) (h2 : pairL m l = p) : Fn Try.prog 79 [mnA m, intsA p, sgsA l] (.bool true) := by
  have := C_tactuslaw11_pairs m p l hl
  rw [(pr_R h h2).1, (pr_R h h2).2, decide_eq_true rfl, decide_eq_true rfl] at this; exact this
theorem C_tactuslaw11_awake  : Fn Try.prog 64 [] (.bool true) := by
  have hD := C_color_Durs mHalf lineL [2] (by decide) (by decide)
  rw [aw_1.1, aw_1.2] at hD
  refine Fn.go Try.func64 Try.ntmps64 (fun g w d => ?_)
  refine X.seq ?_
  refine X.region ?_
  refine Ex.pu ?_
  refine Ex.nil ?_
  refine X.seq ?_
  refine X.region ?_
  refine Ex.ca C_tactuslaw11_half ?_
  refine Ex.ca C_tactuslaw11_line ?_
  refine Ex.bs intE [2] ?_
  refine Ex.imp (Imp.freeze (k := 7) rfl) ?_
  refine Ex.ca hD ?_
  iterate 5 refine Ex.pu ?_
  refine Ex.nil ?_
  refine X.seq ?_
  refine X.region ?_
  iterate 4 refine Ex.pu ?_
  refine Ex.bs tmE awT ?_
  refine Ex.pu ?_
  refine Ex.nil ?_
  refine X.seq ?_
  refine X.imp (Imp.freeze (k := 15) rfl) ?_
  refine X.region ?_
  iterate 3 refine Ex.pu ?_
  refine Ex.unguard rfl rfl rfl ?_
  refine Ex.pu ?_
  refine Ex.unguard rfl rfl rfl ?_
  refine Ex.pu ?_
  refine Ex.unguard rfl rfl rfl ?_
  refine Ex.ca (C_times_eq awT (by decide)) ?_
  iterate 2 refine Ex.pu ?_
  refine Ex.unguard rfl rfl rfl ?_
  refine Ex.ca C_tactuslaw11_circle ?_
  refine Ex.unguard rfl rfl rfl ?_
  refine Ex.ca (C_lasts_T (m := mCirc) (v := 3) (n := 4) (d := 1) (by decide) (by decide +kernel)) ?_
  iterate 2 refine Ex.pu ?_
  refine Ex.unguard rfl rfl rfl ?_
  refine Ex.ca C_tactuslaw11_both ?_
  refine Ex.unguard rfl rfl rfl ?_
  refine Ex.ca (C_lasts_T (m := mBoth) (v := 3) (n := 6) (d := 1) (by decide) (by decide +kernel)) ?_
  iterate 2 refine Ex.pu ?_
  refine Ex.unguard rfl rfl rfl ?_
  refine Ex.ca C_tactuslaw11_half ?_
  refine Ex.unguard rfl rfl rfl ?_
  refine Ex.bs intE [1] ?_
  refine Ex.unguard rfl rfl rfl ?_
  refine Ex.ca C_tactuslaw11_line ?_
  refine Ex.unguard rfl rfl rfl ?_
  refine Ex.imp (Imp.freeze (k := 33) rfl) ?_
  refine Ex.ca (C_pairs_T (m := mHalf) (l := lineL) (p := [1]) (by decide) (by decide) (by decide +kernel)) ?_
  iterate 2 refine Ex.pu ?_
  refine Ex.nil ?_
  refine X.ret ?_
  refine RetQ.ret (.one (.tmp rfl (LeV.eq ?_)))
  all_goals (rfl)
theorem C_tactuslaw11_ColorDurs (m : Mn) (v : Int) (hv : -9223372036854775808 ≤ v ∧ v ≤ 9223372036854775807) : Fn Try.prog 11 [mnA m, iv v] (.bool true) := by
  refine Fn.go Try.func11 Try.ntmps11 (fun g w d => ?_)
  refine X.seq ?_
  refine X.region ?_
  refine Ex.ba ?_
  refine Ex.pu ?_
  refine Ex.nil ?_
  refine X.seq ?_
  refine X.region ?_
  iterate 2 refine Ex.pu ?_
  refine Ex.ca (C_color_Dur m v) ?_
  iterate 3 refine Ex.pu ?_
  refine Ex.al ?_
  refine Ex.mo ?_
  refine Ex.pu ?_
  refine Ex.nil ?_
  refine X.seq ?_
  refine X.region ?_
  iterate 2 refine Ex.pu ?_
  refine Ex.ca (C_tactusref11_Dur m v) ?_
  iterate 3 refine Ex.pu ?_
  refine Ex.al ?_
  refine Ex.mo ?_
  refine Ex.pu ?_
  refine Ex.nil ?_
  refine X.seq ?_
  refine X.region ?_
  iterate 3 refine Ex.pu ?_
  refine ExF.at 3 ?_
  refine ExF.pu ?_
  iterate 3 refine ExF.gi ?_
  iterate 2 refine ExF.pu ?_
  refine ExF.cg C_tactuslaw11_awake ?_
  refine ExF.done ?_
  iterate 2 refine Ex.pu ?_
  refine Ex.nil ?_
  refine X.ret ?_
  refine RetQ.ret (.one (.tmp rfl (LeV.eq ?_)))
  all_goals (first | rfl | simp)
attribute [local irreducible] prL twos ofV ofE colN colE duE duV ckD
set_option maxHeartbeats 2000000 in
theorem C_tactuslaw11_ColorPairs (m : Mn) (l : List Sg) (n : Int) (mi : List Int) (hn : -9223372036854775808 ≤ n ∧ n ≤ 9223372036854775807) : Fn Try.prog 16 [mnA m, sgsA l, iv n, intsA mi] (.bool true) := by
  have hpl := prL_len m l
  have htl := twos_len (prL m l).length
  have hov := ofV_len' m l n
  have hdv := duV_len m l mi
  refine Fn.go Try.func16 Try.ntmps16 (fun g w d => ?_)
  refine X.seq ?_
  refine X.region ?_
  refine Ex.ba ?_
  refine Ex.pu ?_
  refine Ex.nil ?_
  refine X.seq ?_
  refine X.seq ?_
  refine X.region ?_
  iterate 3 refine Ex.pu ?_
  refine ExF.at 3 ?_
  refine ExF.pu ?_
  iterate 3 refine ExF.gi ?_
  refine ExF.done ?_
  refine Ex.pu ?_
  refine Ex.nil ?_
  refine X.cd rfl (fun hc1 => ?_) (fun hc1 => ?_)
  · refine X.seq ?_
    refine X.region ?_
    refine Ex.ca C_tactuslaw11_awake ?_
    refine Ex.pu ?_
    refine Ex.nil ?_
    refine X.ret ?_
    refine RetQ.ret (.one (.tmp rfl (LeV.eq ?_)))
    all_goals (first | rfl | simp)
  refine X.skip ?_
  refine X.seq ?_
  refine X.region ?_
  refine Ex.pu ?_
  refine Ex.ca (C_tactuskit_OwnSigns l (by omega)) ?_
  refine Ex.pu ?_
  refine Ex.ca (C_tactuskit_OwnInts mi (by omega)) ?_
  iterate 2 refine Ex.pu ?_
  refine Ex.nil ?_
  refine X.seq ?_
  refine X.region ?_
  iterate 2 refine Ex.pu ?_
  refine Ex.co [(39, 39)] (C_color_Pairs' m l (by omega)) ?_
  iterate 5 refine Ex.pu ?_
  refine Ex.nil ?_
  refine X.seq ?_
  refine X.imp (Imp.freeze (k := 39) rfl) ?_
  refine X.region ?_
  iterate 2 refine Ex.pu ?_
  refine Ex.ca (C_tactusref11_Pairs' m l (by omega)) ?_
  iterate 5 refine Ex.pu ?_
  refine Ex.nil ?_
  refine X.seq ?_
  refine X.seq ?_
  refine X.region ?_
  iterate 2 refine Ex.pu ?_
  refine Ex.ca (C_ints_eq (prL m l) (by omega)) ?_
  refine Ex.pu ?_
  refine ExF.at 4 ?_
  refine ExF.pu ?_
  iterate 3 refine ExF.gi ?_
  refine ExF.done ?_
  refine Ex.pu ?_
  refine Ex.nil ?_
  refine X.cd rfl (fun hc2 => ?_) (fun hc2 => ?_)
  · simp at hc2
  refine X.skip ?_
  refine X.seq ?_
  refine X.region ?_
  iterate 2 refine Ex.pu ?_
  refine Ex.ca (C_color_Rule m l (by omega)) ?_
  iterate 5 refine Ex.pu ?_
  refine Ex.nil ?_
  refine X.seq ?_
  refine X.region ?_
  iterate 2 refine Ex.pu ?_
  refine Ex.ca (C_tactusref11_Rule m l (by omega)) ?_
  iterate 5 refine Ex.pu ?_
  refine Ex.nil ?_
  refine X.seq ?_
  refine X.seq ?_
  refine X.region ?_
  iterate 2 refine Ex.pu ?_
  refine Ex.ca (C_ints_eq (twos (prL m l).length) (by omega)) ?_
  refine Ex.pu ?_
  refine ExF.at 4 ?_
  refine ExF.pu ?_
  iterate 3 refine ExF.gi ?_
  refine ExF.done ?_
  refine Ex.pu ?_
  refine Ex.nil ?_
  refine X.cd rfl (fun hc3 => ?_) (fun hc3 => ?_)
  · simp at hc3
  refine X.skip ?_
  refine X.seq ?_
  refine X.region ?_
  iterate 3 refine Ex.pu ?_
  refine Ex.ca (C_color_Of m l n (by omega)) ?_
  iterate 5 refine Ex.pu ?_
  refine Ex.nil ?_
  refine X.seq ?_
  refine X.region ?_
  iterate 3 refine Ex.pu ?_
  refine Ex.ca (C_tactusref11_Of m l n (by omega)) ?_
  iterate 5 refine Ex.pu ?_
  refine Ex.nil ?_
  refine X.seq ?_
  refine X.seq ?_
  refine X.region ?_
  iterate 2 refine Ex.pu ?_
  refine Ex.ca (C_ints_eq (ofV m l n) (by omega)) ?_
  refine Ex.pu ?_
  refine ExF.at 4 ?_
  refine ExF.pu ?_
  iterate 3 refine ExF.gi ?_
  refine ExF.done ?_
  refine Ex.pu ?_
  refine Ex.nil ?_
  refine X.cd rfl (fun hc4 => ?_) (fun hc4 => ?_)
  · simp at hc4
  refine X.skip ?_
  refine X.seq ?_
  refine X.region ?_
  iterate 2 refine Ex.pu ?_
  refine Ex.ca (C_color_Count m l (by omega)) ?_
  iterate 5 refine Ex.pu ?_
  refine Ex.nil ?_
  refine X.seq ?_
  refine X.region ?_
  iterate 2 refine Ex.pu ?_
  refine Ex.ca (C_tactusref11_Count m l (by omega)) ?_
  iterate 5 refine Ex.pu ?_
  refine Ex.nil ?_
  refine X.seq ?_
  refine X.region ?_
  iterate 3 refine Ex.pu ?_
  refine Ex.ca (C_color_Durs m l mi (by omega) (by omega)) ?_
  iterate 5 refine Ex.pu ?_
  refine Ex.nil ?_
  refine X.seq ?_
  refine X.region ?_
  iterate 3 refine Ex.pu ?_
  refine Ex.ca (C_tactusref11_Durs m l mi (by omega) (by omega)) ?_
  iterate 5 refine Ex.pu ?_
  refine Ex.nil ?_
  refine X.seq ?_
  refine X.region ?_
  iterate 3 refine Ex.pu ?_
  refine ExF.at 3 ?_
  refine ExF.pu ?_
  iterate 3 refine ExF.gi ?_
  iterate 2 refine ExF.pu ?_
  iterate 3 refine ExF.gi ?_
  iterate 2 refine ExF.pu ?_
  iterate 2 refine ExF.gi ?_
  refine ExF.cg (C_times_eq (duV m l mi) (by omega)) ?_
  iterate 2 refine ExF.pu ?_
  iterate 2 refine ExF.gi ?_
  refine ExF.cg (C_signs_eq l (by omega)) ?_
  iterate 2 refine ExF.pu ?_
  iterate 2 refine ExF.gi ?_
  refine ExF.cg (C_ints_eq mi (by omega)) ?_
  iterate 2 refine ExF.pu ?_
  refine ExF.cg C_tactuslaw11_awake ?_
  refine ExF.done ?_
  iterate 2 refine Ex.pu ?_
  refine Ex.nil ?_
  refine X.ret ?_
  refine RetQ.ret (.one (.tmp rfl (LeV.eq ?_)))
  all_goals (first | rfl | simp)
end Go.Rse
