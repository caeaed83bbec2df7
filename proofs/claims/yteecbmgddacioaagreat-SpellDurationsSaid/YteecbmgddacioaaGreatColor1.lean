/-
  Walks: colored durations.
-/
import Derived.Test.YteecbmgddacioaaGreatFull1
import Derived.Test.YteecbmgddacioaaGreatRse31
namespace Go.Rse
open Go Go.Proofs
set_option linter.unusedVariables false
set_option linter.unusedSimpArgs false
attribute [local irreducible] Pur StepA StepM Ex X ExG Fn Imp LeV LeB FnO It YStep
/-- Whether no value is perfect. -/
def Mn.pl (m : Mn) : Bool := decide (m.Max = 2) && decide (m.Mod = 2) && decide (m.Tem = 2) && decide (m.Pro = 2)
def durR (m : Mn) : Nat → Int → Tm
  | 0, v => if m.pl = true then mulV (fullT m v) ⟨2, 3⟩ else fullT m v
  | n + 1, v => if m.pl = true then mulV (fullT m v) ⟨2, 3⟩ else if m.p v = 3 then mulV (fullT m v) ⟨2, 3⟩ else mulV (durR m n (v + 1)) ⟨2, 1⟩
def durT (m : Mn) (v : Int) : Tm := durR m (5 - v).toNat v
theorem durT_pl {m : Mn} {v : Int} (h : m.pl = true) : durT m v = mulV (fullT m v) ⟨2, 3⟩ := by
  unfold durT; cases (5 - v).toNat <;> simp [durR, h]
theorem durT_min {m : Mn} {v : Int} (h : m.pl = false) (h5 : 5 ≤ v) : durT m v = fullT m v := by
  unfold durT; rw [show (5 - v).toNat = 0 by omega]; simp [durR, h]
theorem durT_3 {m : Mn} {v : Int} (h : m.pl = false) (h5 : v < 5) (h3 : m.p v = 3) : durT m v = mulV (fullT m v) ⟨2, 3⟩ := by
  unfold durT; rw [show (5 - v).toNat = (4 - v).toNat + 1 by omega]; simp [durR, h, h3]
theorem durT_2 {m : Mn} {v : Int} (h : m.pl = false) (h5 : v < 5) (h3 : ¬ m.p v = 3) : durT m v = mulV (durT m (v + 1)) ⟨2, 1⟩ := by
  unfold durT; rw [show (5 - v).toNat = (5 - (v + 1)).toNat + 1 by omega]; simp [durR, h, h3]
theorem C_mens_FullV {m : Mn} {v : Int} (hm : ckM m = 0) (h1 : 1 ≤ v) (h8 : v ≤ 8) : Fn Tryz.prog 66 [mnA m, iv v] (.tup [tmA (fullT m v), iv 0]) := by
  have h := C_mens_Full m v
  have h0 : ckMV m v = 0 := by
    unfold ckM at hm; unfold ckMV
    split at hm
    · rw [if_pos (by assumption), if_pos ⟨h1, h8⟩]
    · simp at hm
  rw [h0, if_pos rfl] at h; exact h
theorem C_mens_PartsV {m : Mn} {v : Int} (hm : ckM m = 0) (h1 : 1 ≤ v) (h8 : v ≤ 8) : Fn Tryz.prog 68 [mnA m, iv v] (.tup [iv (m.p v), iv 0]) := by
  have h := C_mens_Parts m v
  have h0 : ckMV m v = 0 := by
    unfold ckM at hm; unfold ckMV
    split at hm
    · rw [if_pos (by assumption), if_pos ⟨h1, h8⟩]
    · simp at hm
  rw [h0, if_pos rfl] at h; exact h
attribute [local irreducible] fullT durT mulV
theorem C_color_thirds (t : Tm) : Fn Tryz.prog 104 [tmA t] (tmA (mulV t ⟨2, 3⟩)) := by
  refine Fn.go Tryz.func104 Tryz.ntmps104 (fun g w d => ?_)
  refine X.seq ?_
  refine X.region ?_
  refine Ex.ba ?_
  refine Ex.al ?_
  refine Ex.nil ?_
  refine X.seq ?_
  refine X.region ?_
  iterate 2 refine Ex.pu ?_
  refine Ex.ca (C_span_Mul t ⟨2, 3⟩) ?_
  iterate 3 refine Ex.pu ?_
  refine Ex.al ?_
  refine Ex.mo ?_
  refine Ex.pu ?_
  refine Ex.nil ?_
  refine X.seq ?_
  refine X.region ?_
  refine Ex.pu ?_
  refine Ex.mo ?_
  refine Ex.nil ?_
  refine X.ret ?_
  refine RetQ.ret (.one (.cellA rfl rfl rfl rfl ty51 (LeV.eq ?_)))
  all_goals (rfl)
theorem C_color_dur_1 (m : Mn) (hm : ckM m = 0) (v : Int) (h1 : 1 ≤ v) (h8 : v ≤ 8) : FnO Tryz.prog 103 [iv v, .ptr 2000000 0 0 0, .ptr 2000001 0 0 0, .ptr 2000002 0 0 0] [(2000000, .box (mnE m) 23), (2000001, .box [.bool m.pl] 4), (2000002, .box [.fn 103 [.ptr 2000000 0 0 0, .ptr 2000001 0 0 0, .ptr 2000002 0 0 0]] 128)] [2000000, 2000001, 2000002] (tmA (durT m v)) [(2000000, .box (mnE m) 23), (2000001, .box [.bool m.pl] 4), (2000002, .box [.fn 103 [.ptr 2000000 0 0 0, .ptr 2000001 0 0 0, .ptr 2000002 0 0 0]] 128)] := by
  induction hn : (5 - v).toNat using Nat.strongRecOn generalizing v
  rename_i n ih
  refine FnO.introX (ts := [(0, iv v), (1, .ptr 2000000 0 0 0), (2, .ptr 2000001 0 0 0), (3, .ptr 2000002 0 0 0)]) (rv := [.cell 5 51]) (n := 47) (cs := [.ptr 2000000 0 0 0, .ptr 2000001 0 0 0, .ptr 2000002 0 0 0]) (by kernel_rfl) Tryz.func103 rfl Tryz.ntmps103 rfl rfl (by simp) rfl rfl rfl rfl (fun g w d vs => ?_)
  refine X.seq ?_
  refine X.region ?_
  refine Ex.al ?_
  refine Ex.nil ?_
  refine X.seq ?_
  refine X.region ?_
  iterate 2 refine Ex.pu ?_
  refine Ex.ca (C_mens_FullV hm h1 h8) ?_
  iterate 3 refine Ex.pu ?_
  refine Ex.al ?_
  refine Ex.mo ?_
  refine Ex.pu ?_
  refine Ex.nil ?_
  refine X.seq ?_
  refine X.region ?_
  iterate 2 refine Ex.pu ?_
  refine Ex.ca (C_mens_PartsV hm h1 h8) ?_
  iterate 5 refine Ex.pu ?_
  refine Ex.nil ?_
  refine X.seq ?_
  refine X.block ?_
  refine X.seq ?_
  refine X.region ?_
  iterate 2 refine Ex.pu ?_
  refine Ex.nil ?_
  refine X.cd rfl (fun hc1 => ?_) (fun hc1 => ?_)
  · have hD := durT_pl (v := v) hc1
    refine X.seq ?_
    refine X.region ?_
    refine Ex.pu ?_
    refine Ex.ca (C_color_thirds _) ?_
    refine Ex.mo ?_
    refine Ex.nil ?_
    refine X.ret ?_
    refine RetQX.mk [(5, .ptr 5 0 0 0)] [(5, .box (tmE (mulV (fullT m v) ⟨2, 3⟩)) 51)] (.inr rfl) (.one (.cellA rfl rfl rfl rfl ty51 (LeV.eq ?_)))
    all_goals (rw [hD])
  refine X.seq ?_
  refine X.region ?_
  iterate 3 refine Ex.pu ?_
  refine Ex.nil ?_
  refine X.cd rfl (fun hc2 => ?_) (fun hc2 => ?_)
  · have hD := durT_min hc1 hc2
    refine X.seq ?_
    refine X.region ?_
    refine Ex.pu ?_
    refine Ex.mo ?_
    refine Ex.nil ?_
    refine X.ret ?_
    refine RetQX.mk [(5, .ptr 5 0 0 0)] [(5, .box (tmE (fullT m v)) 51)] (.inr rfl) (.one (.cellA rfl rfl rfl rfl ty51 (LeV.eq ?_)))
    all_goals (rw [hD])
  refine X.seq ?_
  refine X.region ?_
  iterate 3 refine Ex.pu ?_
  refine Ex.nil ?_
  refine X.cd rfl (fun hc3 => ?_) (fun hc3 => ?_)
  · have hD := durT_3 hc1 hc2 hc3
    refine X.seq ?_
    refine X.region ?_
    refine Ex.pu ?_
    refine Ex.ca (C_color_thirds _) ?_
    refine Ex.mo ?_
    refine Ex.nil ?_
    refine X.ret ?_
    refine RetQX.mk [(5, .ptr 5 0 0 0)] [(5, .box (tmE (mulV (fullT m v) ⟨2, 3⟩)) 51)] (.inr rfl) (.one (.cellA rfl rfl rfl rfl ty51 (LeV.eq ?_)))
    all_goals (rw [hD])
  have hD := durT_2 hc1 hc2 hc3
  refine X.skip ?_
  refine X.seq ?_
  refine X.region ?_
  iterate 3 refine Ex.pu ?_
  refine Ex.co [(2000000, 2000000), (2000001, 2000001), (2000002, 2000002)] (ih (5 - (v + 1)).toNat (by omega) (v + 1) (by omega) (by omega) rfl) ?_
  refine Ex.pu ?_
  refine Ex.ca (C_span_Mul (durT m (v + 1)) ⟨2, 1⟩) ?_
  iterate 3 refine Ex.pu ?_
  refine Ex.al ?_
  refine Ex.mo ?_
  refine Ex.pu ?_
  refine Ex.nil ?_
  refine X.seq ?_
  refine X.region ?_
  refine Ex.pu ?_
  refine Ex.mo ?_
  refine Ex.nil ?_
  refine X.ret ?_
  refine RetQX.mk [(5, .ptr 5 0 0 0)] [(5, .box (tmE (mulV (durT m (v + 1)) ⟨2, 1⟩)) 51)] (.inr rfl) (.one (.cellA rfl rfl rfl rfl ty51 (LeV.eq ?_)))
  all_goals (rw [hD])
theorem C_color_dur (m : Mn) (hm : ckM m = 0) (v : Int) (h1 : 1 ≤ v) (h8 : v ≤ 8) : Fn Tryz.prog 95 [mnA m, iv v] (tmA (durT m v)) := by
  have hpl : (decide (m.Max = 2) && decide (m.Mod = 2) && decide (m.Tem = 2) && decide (m.Pro = 2)) = m.pl := by unfold Mn.pl; rfl
  refine Fn.go Tryz.func95 Tryz.ntmps95 (fun g w d => ?_)
  refine X.seq ?_
  refine X.region ?_
  refine Ex.ba ?_
  refine Ex.al ?_
  refine Ex.nil ?_
  refine X.seq ?_
  refine X.region ?_
  iterate 3 refine Ex.pu ?_
  refine ExF.at 3 ?_
  refine ExF.pu ?_
  iterate 3 refine ExF.gi ?_
  iterate 2 refine ExF.pu ?_
  iterate 3 refine ExF.gi ?_
  iterate 2 refine ExF.pu ?_
  iterate 3 refine ExF.gi ?_
  refine ExF.done ?_
  refine Ex.pu ?_
  refine Ex.al ?_
  refine Ex.mo ?_
  refine Ex.nil ?_
  refine X.seq ?_
  refine X.region ?_
  refine Ex.al ?_
  refine Ex.nil ?_
  refine X.seq ?_
  refine X.region ?_
  refine Ex.pu ?_
  refine Ex.mo ?_
  refine Ex.nil ?_
  refine X.seq ?_
  refine X.region ?_
  iterate 2 refine Ex.pu ?_
  refine Ex.co [(2000000, 2), (2000001, 5), (2000002, 6)] (C_color_dur_1 m hm v h1 h8) ?_
  refine Ex.mo ?_
  refine Ex.nil ?_
  refine X.ret ?_
  refine RetQ.ret (.one (.cellA rfl rfl rfl rfl ty51 (LeV.eq ?_)))
  all_goals (rfl)
theorem C_color_Dur (m : Mn) (v : Int) : Fn Tryz.prog 72 [mnA m, iv v] (.tup [tmA (if ckMV m v = 0 then durT m v else tmZ), iv (ckMV m v)]) := by
  refine Fn.go Tryz.func72 Tryz.ntmps72 (fun g w d => ?_)
  refine X.seq ?_
  refine X.region ?_
  refine Ex.ba ?_
  refine Ex.al ?_
  refine Ex.pu ?_
  refine Ex.nil ?_
  refine X.seq ?_
  refine X.seq ?_
  refine X.region ?_
  refine Ex.pu ?_
  refine Ex.ca (C_mens_Check m) ?_
  refine Ex.pu ?_
  refine Ex.nil ?_
  refine X.seq ?_
  refine X.region ?_
  iterate 2 refine Ex.pu ?_
  refine Ex.nil ?_
  refine X.cd rfl (fun hc1 => ?_) (fun hc1 => ?_)
  · have hE : ckMV m v = ckM m := by unfold ckMV ckM at *; split <;> simp_all
    refine X.seq ?_
    refine X.region ?_
    iterate 2 refine Ex.pu ?_
    refine Ex.mo ?_
    refine Ex.pu ?_
    refine Ex.nil ?_
    refine X.ret ?_
    refine RetQ.ret (.many (by decide) (.cons (.cellA rfl rfl rfl rfl ty51 (LeV.eq ?_)) (.cons (.tmp rfl (LeV.eq ?_)) .nil)))
    all_goals (first | (rw [hE]; done) | (rw [hE, if_pos rfl]; done) | (rw [hE, if_pos rfl]; rfl) | (rw [hE, if_neg hc1]; rfl) | (rw [hE]; rfl))
  refine X.skip ?_
  refine X.seq ?_
  refine X.seq ?_
  refine X.region ?_
  iterate 2 refine Ex.pu ?_
  refine ExF.at 2 ?_
  refine ExF.pu ?_
  iterate 2 refine ExF.gi ?_
  refine ExF.done ?_
  refine Ex.pu ?_
  refine Ex.nil ?_
  refine X.cd rfl (fun hc2 => ?_) (fun hc2 => ?_)
  · have hE : ckMV m v = 2 := by unfold ckM at hc1; unfold ckMV; split at hc1 <;> simp_all; omega
    refine X.seq ?_
    refine X.region ?_
    refine Ex.pu ?_
    refine Ex.mo ?_
    refine Ex.pu ?_
    refine Ex.nil ?_
    refine X.ret ?_
    refine RetQ.ret (.many (by decide) (.cons (.cellA rfl rfl rfl rfl ty51 (LeV.eq ?_)) (.cons (.tmp rfl (LeV.eq ?_)) .nil)))
    all_goals (first | (rw [hE]; done) | (rw [hE, if_pos rfl]; done) | (rw [hE, if_pos rfl]; rfl) | (rw [hE, if_neg hc1]; rfl) | (rw [hE]; rfl))
  have hE : ckMV m v = 0 := by unfold ckM at hc1; unfold ckMV; split at hc1 <;> simp_all <;> omega
  refine X.skip ?_
  refine X.seq ?_
  refine X.region ?_
  iterate 2 refine Ex.pu ?_
  refine Ex.ca (C_color_dur m hc1 v (by omega) (by omega)) ?_
  refine Ex.mo ?_
  refine Ex.pu ?_
  refine Ex.nil ?_
  refine X.ret ?_
  refine RetQ.ret (.many (by decide) (.cons (.cellA rfl rfl rfl rfl ty51 (LeV.eq ?_)) (.cons (.tmp rfl (LeV.eq ?_)) .nil)))
  all_goals (first | (rw [hE]; done) | (rw [hE, if_pos rfl]; done) | (rw [hE, if_pos rfl]; rfl) | (rw [hE, if_neg hc1]; rfl) | (rw [hE]; rfl))
end Go.Rse
