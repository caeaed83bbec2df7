/-
  Walks: the examples of the chapter on the rule.
-/
import Derived.Test.YtfiiobachmglpaaGreatDoorSLaw17b
import Derived.Test.YtfiiobachmglpaaGreatDoorSLaw13a
import Derived.Test.YtfiiobachmglpaaGreatDoorSRl0
set_option linter.unusedSimpArgs false
set_option linter.unusedVariables false
namespace Go.Rse
open Go Go.Proofs Go.RowKit
def txL (s : ByteArray) : List Sg := (txK (txB s) s.size).1
def itQ (m : Mn) (l : List Sg) : List Ite := itK l (mkK (ruleR m l) l l.length).1 (mkK (ruleR m l) l l.length).2.1 (dvK m l (markK (pairL m l) (twos (pairL m l).length) (pairL m l).length) l.length) l.length
theorem rdI_R {m : Mn} {l : List Sg} (h : ckR m l = 0) : rdI m l = itQ m l := by
 have h0 := ckDR h
 have k1 := rule_mk (ckD_zero h0).1 h0
 have k2 := rule_du h0
 unfold rdI
 rw [itmV_y (by unfold itmE; rw [if_pos k1, k2]), ← duV_y k2.symm]
 unfold mkC mkA duM
 rw [if_pos k1, if_pos k1, prR h rfl, ruleD_R h0]; rfl
def rdB (m : Mn) (l : List Sg) (D : List Tm) : Bool := decide (ckR m l = 0) && decide (ckIE (itQ m l) = 0) && decide ((lvF m (perfL m) (itQ m l) []).2.2 = 0) && decide ((lvF m (perfL m) (itQ m l) []).2.1.map (·.Dur) = D)
theorem rdB_ok {m : Mn} {l : List Sg} {D : List Tm} (h : rdB m l D = true) : rdE m l = 0 /\ (rdV m l).Durs = D := by
 unfold rdB at h
 simp only [Bool.and_eq_true, decide_eq_true_eq] at h
 obtain ⟨⟨⟨h1, h2⟩, h3⟩, h4⟩ := h
 have h0 := ckDR h1
 rw [← rdI_R h1] at h2 h3 h4
 have hl : leE m (rdI m l) = 0 := by unfold leE; rw [if_pos (ckD_zero h0).1, if_pos h2]; exact h3
 obtain ⟨e1, e2⟩ := rd_c h0 hl
 refine ⟨e1, ?_⟩
 rw [e2]
 show (leI m (rdI m l)).map (·.Dur) = D
 unfold leI; rw [if_pos hl]; exact h4
def rdX (m : Mn) (l : List Sg) (e : Int) : Bool := decide (ckR m l = 0) && decide (ckIE (itQ m l) = 0) && decide ((lvF m (perfL m) (itQ m l) []).2.2 = e) && decide (¬ e = 0)
theorem rdX_ok {m : Mn} {l : List Sg} {e : Int} (h : rdX m l e = true) : rdE m l = e /\ (rdV m l).Durs = [] := by
 unfold rdX at h
 simp only [Bool.and_eq_true, decide_eq_true_eq] at h
 obtain ⟨⟨⟨h1, h2⟩, h3⟩, h4⟩ := h
 have h0 := ckDR h1
 rw [← rdI_R h1] at h2 h3
 have hl : leE m (rdI m l) = e := by unfold leE; rw [if_pos (ckD_zero h0).1, if_pos h2]; exact h3
 obtain ⟨e1, e2⟩ := rd_b h0 (by rw [hl]; exact h4)
 exact ⟨e1.trans hl, by rw [e2]⟩
attribute [local irreducible] Pur StepA StepM Ex X ExG Fn Imp LeV LeB FnO It YStep FnW FnOW FnP FnD
theorem C_txL (s : ByteArray) (hl : s.size <= 1000) : Fn Tryz.prog 31 [.str s] (sgsA (txL s)) := C_tactuslaw17_run s hl
theorem txL_len (s : ByteArray) : (txL s).length <= s.size := txK_len _ _
attribute [local irreducible] txL rdE rdV hfT
theorem C_tactuslaw17_reads (tem pro : Int) (s : ByteArray) (l : List Int) (hs : s.size <= 1000) (hl : l.length <= 1000) (hb : ∀ x ∈ l, 0 <= x /\ x <= 1000000) : Fn Tryz.prog 29 [iv tem, iv pro, .str s, intsA l] (.bool (decide (rdE ⟨2, 2, tem, pro⟩ (txL s) = 0) && decide ((rdV ⟨2, 2, tem, pro⟩ (txL s)).Durs = l.map hfT))) := by
 have ht := txL_len s
 have hd := rdV_len (m := ⟨2, 2, tem, pro⟩) (l := txL s)
 refine Fn.go Tryz.func29 Tryz.ntmps29 (fun g w d => ?_)
 apply X.sr
 refine Ex.pu ?_
 apply Ex.ns
 iterate 4 refine Ex.pu ?_
 refine Ex.ca (C_txL s hs) ?_
 refine Ex.ca (C_rule_Durs ⟨2, 2, tem, pro⟩ (txL s) (by omega)) ?_
 iterate 5 refine Ex.pu ?_
 apply Ex.ns
 iterate 2 refine Ex.pu ?_
 refine ExF.at 2 ?_
 refine ExF.pu ?_
 iterate 2 refine ExF.gi ?_
 refine ExF.cg (C_tactuslaw17_halves l hl hb) ?_
 refine ExF.cg (C_tactuskit_SameTimes (rdV ⟨2, 2, tem, pro⟩ (txL s)).Durs (l.map hfT) (by omega)) ?_
 refine ExF.done ?_
 iterate 2 refine Ex.pu ?_
 apply Ex.nil
 refine X.ret ?_
 refine RetQ.ret (.one (.tmp rfl (LeV.eq ?_)))
 all_goals (first | rfl | (simp_all; done))
def rdK (tem pro : Int) (a : Array UInt8) (l : List Int) : Bool := decide (a.size <= 1000) && decide (l.length <= 1000) && (l.all fun x => decide (0 <= x) && decide (x <= 1000000)) && rdB ⟨2, 2, tem, pro⟩ (txL ⟨a⟩) (l.map hfT)
theorem C_rdK (tem pro : Int) (a : Array UInt8) (l : List Int) (h : rdK tem pro a l = true) : Fn Tryz.prog 29 [iv tem, iv pro, .str ⟨a⟩, intsA l] (.bool true) := by
 unfold rdK at h
 simp only [Bool.and_eq_true, decide_eq_true_eq, List.all_eq_true] at h
 obtain ⟨⟨⟨h1, h2⟩, h3⟩, h4⟩ := h
 have hR := C_tactuslaw17_reads tem pro ⟨a⟩ l h1 h2 h3
 obtain ⟨e1, e2⟩ := rdB_ok h4
 rw [e1, e2] at hR
 simpa using hR
theorem k17_e : rdX ⟨2, 2, 3, 2⟩ (txL ⟨#[83, 32, 66, 32, 66]⟩) 14 = true := by kernel_rfl
theorem C_rdN : Fn Tryz.prog 30 [mnA ⟨2, 2, 3, 2⟩, sgsA (txL ⟨#[83, 32, 66, 32, 66]⟩)] (.tup [tmsA [], iv 14]) := by
 have h := C_rule_Durs ⟨2, 2, 3, 2⟩ (txL ⟨#[83, 32, 66, 32, 66]⟩) (Nat.le_trans (txL_len _) (by decide))
 obtain ⟨e1, e2⟩ := rdX_ok k17_e
 rw [e1, e2] at h; exact h
set_option maxHeartbeats 4000000 in
theorem C_tactuslaw17_awake  : Fn Tryz.prog 16 [] (.bool true) := by
 refine Fn.go Tryz.func16 Tryz.ntmps16 (fun g w d => ?_)
 apply X.sr
 refine Ex.pu ?_
 apply Ex.ns
 refine Ex.stepA (A_buildSliceF (enc := intE) (l := [8, 4, 12]) sl27 ty3 ze3 (by decide) rfl rfl rfl rfl (by decide) (by decide) (fun _ => rfl) rfl) rfl rfl ?_
 refine Ex.ca (C_rdK 3 2 #[66, 32, 83, 32, 66] [8, 4, 12] (by kernel_rfl)) ?_
 refine Ex.pu ?_
 refine Ex.unguard rfl rfl rfl ?_
 refine Ex.stepA (A_buildSliceF (enc := intE) (l := [12, 4, 8, 12]) sl27 ty3 ze3 (by decide) rfl rfl rfl rfl (by decide) (by decide) (fun _ => rfl) rfl) rfl rfl ?_
 refine Ex.unguard rfl rfl rfl ?_
 refine Ex.ca (C_rdK 3 2 #[66, 32, 83, 32, 83, 32, 66] [12, 4, 8, 12] (by kernel_rfl)) ?_
 iterate 2 refine Ex.pu ?_
 refine Ex.unguard rfl rfl rfl ?_
 refine Ex.stepA (A_buildSliceF (enc := intE) (l := [4, 2, 4, 2, 6]) sl27 ty3 ze3 (by decide) rfl rfl rfl rfl (by decide) (by decide) (fun _ => rfl) rfl) rfl rfl ?_
 refine Ex.unguard rfl rfl rfl ?_
 refine Ex.ca (C_rdK 2 3 #[83, 32, 77, 32, 83, 32, 77, 32, 83] [4, 2, 4, 2, 6] (by kernel_rfl)) ?_
 iterate 2 refine Ex.pu ?_
 refine Ex.unguard rfl rfl rfl ?_
 refine Ex.stepA (A_buildSliceF (enc := intE) (l := [4, 3, 1, 2]) sl27 ty3 ze3 (by decide) rfl rfl rfl rfl (by decide) (by decide) (fun _ => rfl) rfl) rfl rfl ?_
 refine Ex.unguard rfl rfl rfl ?_
 refine Ex.ca (C_rdK 2 2 #[83, 32, 77, 32, 46, 32, 81, 32, 77] [4, 3, 1, 2] (by kernel_rfl)) ?_
 iterate 2 refine Ex.pu ?_
 apply Ex.nil
 refine X.ret ?_
 refine RetQ.ret (.one (.tmp rfl (LeV.eq ?_)))
 all_goals (first | rfl | simp)
set_option maxHeartbeats 4000000 in
theorem C_tactuslaw17_RuleKnown  : Fn Tryz.prog 5 [] (.bool true) := by
 refine Fn.go Tryz.func5 Tryz.ntmps5 (fun g w d => ?_)
 apply X.sr
 refine Ex.pu ?_
 apply Ex.ns
 refine Ex.stepA (A_buildSliceF (enc := intE) (l := [12, 4, 4, 4, 12]) sl27 ty3 ze3 (by decide) rfl rfl rfl rfl (by decide) (by decide) (fun _ => rfl) rfl) rfl rfl ?_
 refine Ex.ca (C_rdK 3 2 #[66, 32, 83, 32, 83, 32, 83, 32, 66] [12, 4, 4, 4, 12] (by kernel_rfl)) ?_
 refine Ex.pu ?_
 refine Ex.unguard rfl rfl rfl ?_
 refine Ex.stepA (A_buildSliceF (enc := intE) (l := [8, 4, 4, 4, 4, 12]) sl27 ty3 ze3 (by decide) rfl rfl rfl rfl (by decide) (by decide) (fun _ => rfl) rfl) rfl rfl ?_
 refine Ex.unguard rfl rfl rfl ?_
 refine Ex.ca (C_rdK 3 2 #[66, 32, 83, 32, 83, 32, 83, 32, 83, 32, 66] [8, 4, 4, 4, 4, 12] (by kernel_rfl)) ?_
 iterate 2 refine Ex.pu ?_
 refine Ex.unguard rfl rfl rfl ?_
 refine Ex.stepA (A_buildSliceF (enc := intE) (l := [4, 4, 4, 12, 12]) sl27 ty3 ze3 (by decide) rfl rfl rfl rfl (by decide) (by decide) (fun _ => rfl) rfl) rfl rfl ?_
 refine Ex.unguard rfl rfl rfl ?_
 refine Ex.ca (C_rdK 3 2 #[114, 83, 32, 114, 83, 32, 83, 32, 66, 32, 66] [4, 4, 4, 12, 12] (by kernel_rfl)) ?_
 iterate 2 refine Ex.pu ?_
 refine Ex.unguard rfl rfl rfl ?_
 refine Ex.stepA (A_buildSliceF (enc := intE) (l := [8, 4, 4, 8, 4]) sl27 ty3 ze3 (by decide) rfl rfl rfl rfl (by decide) (by decide) (fun _ => rfl) rfl) rfl rfl ?_
 refine Ex.unguard rfl rfl rfl ?_
 refine Ex.ca (C_rdK 3 2 #[66, 32, 83, 32, 46, 32, 83, 32, 66, 32, 83] [8, 4, 4, 8, 4] (by kernel_rfl)) ?_
 iterate 2 refine Ex.pu ?_
 apply Ex.ns
 refine Ex.stepA (A_buildSliceF (enc := intE) (l := [6, 2, 4, 6]) sl27 ty3 ze3 (by decide) rfl rfl rfl rfl (by decide) (by decide) (fun _ => rfl) rfl) rfl rfl ?_
 refine Ex.ca (C_rdK 2 3 #[83, 32, 77, 32, 77, 32, 83] [6, 2, 4, 6] (by kernel_rfl)) ?_
 refine Ex.pu ?_
 refine Ex.unguard rfl rfl rfl ?_
 refine Ex.stepA (A_buildSliceF (enc := intE) (l := [4, 2, 2, 2, 2, 6]) sl27 ty3 ze3 (by decide) rfl rfl rfl rfl (by decide) (by decide) (fun _ => rfl) rfl) rfl rfl ?_
 refine Ex.unguard rfl rfl rfl ?_
 refine Ex.ca (C_rdK 2 3 #[83, 32, 77, 32, 77, 32, 77, 32, 77, 32, 83] [4, 2, 2, 2, 2, 6] (by kernel_rfl)) ?_
 iterate 2 refine Ex.pu ?_
 refine Ex.unguard rfl rfl rfl ?_
 refine Ex.stepA (A_buildSliceF (enc := intE) (l := [16, 2, 18]) sl27 ty3 ze3 (by decide) rfl rfl rfl rfl (by decide) (by decide) (fun _ => rfl) rfl) rfl rfl ?_
 refine Ex.unguard rfl rfl rfl ?_
 refine Ex.ca (C_rdK 3 3 #[66, 32, 77, 32, 66] [16, 2, 18] (by kernel_rfl)) ?_
 iterate 2 refine Ex.pu ?_
 apply Ex.ns
 refine Ex.stepA (A_buildSliceF (enc := intE) (l := [8, 8, 8]) sl27 ty3 ze3 (by decide) rfl rfl rfl rfl (by decide) (by decide) (fun _ => rfl) rfl) rfl rfl ?_
 refine Ex.ca (C_rdK 3 2 #[42, 66, 32, 42, 66, 32, 42, 66] [8, 8, 8] (by kernel_rfl)) ?_
 refine Ex.pu ?_
 refine Ex.unguard rfl rfl rfl ?_
 refine Ex.stepA (A_buildSliceF (enc := intE) (l := [12, 4, 4, 4, 4, 4, 4, 12]) sl27 ty3 ze3 (by decide) rfl rfl rfl rfl (by decide) (by decide) (fun _ => rfl) rfl) rfl rfl ?_
 refine Ex.unguard rfl rfl rfl ?_
 refine Ex.ca (C_rdK 3 2 #[66, 32, 42, 83, 32, 42, 83, 32, 42, 83, 32, 42, 83, 32, 42, 83, 32, 42, 83, 32, 66] [12, 4, 4, 4, 4, 4, 4, 12] (by kernel_rfl)) ?_
 iterate 2 refine Ex.pu ?_
 apply Ex.ns
 refine Ex.pu ?_
 refine Ex.ca (C_txL ⟨#[83, 32, 66, 32, 66]⟩ (by decide)) ?_
 refine Ex.ca C_rdN ?_
 iterate 5 refine Ex.pu ?_
 apply Ex.ns
 refine Ex.ca C_tactuslaw17_awake ?_
 refine Ex.pu ?_
 refine Ex.unguard rfl rfl rfl ?_
 iterate 3 refine Ex.pu ?_
 refine Ex.unguard rfl rfl rfl ?_
 iterate 3 refine Ex.pu ?_
 refine Ex.unguard rfl rfl rfl ?_
 iterate 3 refine Ex.pu ?_
 refine Ex.unguard rfl rfl rfl ?_
 refine Ex.pu ?_
 refine Ex.unguard rfl rfl rfl ?_
 iterate 3 refine Ex.pu ?_
 refine Ex.unguard rfl rfl rfl ?_
 refine Ex.pu ?_
 refine Ex.unguard rfl rfl rfl ?_
 refine Ex.pu ?_
 refine Ex.unguard rfl rfl rfl ?_
 iterate 3 refine Ex.pu ?_
 apply Ex.nil
 refine X.ret ?_
 refine RetQ.ret (.one (.tmp rfl (LeV.eq ?_)))
 all_goals (first | rfl | simp)
end Go.Rse
