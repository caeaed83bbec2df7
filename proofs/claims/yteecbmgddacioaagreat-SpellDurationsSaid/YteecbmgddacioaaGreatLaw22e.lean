/-
  Walks: the statement on the durations of a spelling and on its signs.
-/
import Derived.Test.YteecbmgddacioaaGreatRef22d
namespace Go.Rse
open Go Go.Proofs
set_option linter.unusedVariables false
set_option linter.unusedSimpArgs false
attribute [local irreducible] Pur StepA StepM Ex X ExG Fn Imp LeV LeB FnO It YStep
theorem chS_2 {s : Sp} (h : s.Value < 1 ∨ 8 < s.Value) : 2 = chS s := by unfold chS; rw [if_neg (by omega)]
theorem chS_8 {s : Sp} (h : 1 ≤ s.Value ∧ s.Value ≤ 8) (h2 : (s.Way < 1 ∨ 8 < s.Way) ∨ ¬ s = spOf s.Value s.Way) : 8 = chS s := by
  unfold chS; rw [if_pos h, if_neg (fun e => h2.elim (fun h => by omega) (fun h => h e.2))]
theorem chS_00 {s : Sp} (h : 1 ≤ s.Value ∧ s.Value ≤ 8) (h2 : (1 ≤ s.Way ∧ s.Way ≤ 8) ∧ s = spOf s.Value s.Way) : 0 = chS s := by
  unfold chS; rw [if_pos h, if_pos h2]
theorem mdL_dur {m : Mn} {s : Sp} (hm : ckM m = 0) (c : chS s = 0) : mdL m s.Value s.Way = durV m s := by
  obtain ⟨h1, h8, w1, w8, -⟩ := chS_0 c
  have hE : durE m s = 0 := by unfold durE; rw [if_pos hm]; exact c
  unfold durV; rw [if_pos hE]
  obtain ⟨hi, hp, -⟩ := md_law hm h1 h8 (i := (s.Way - 1).toNat) (by omega)
  rw [show (1 : Int) + (((s.Way - 1).toNat : Nat) : Int) = s.Way by omega] at hi hp
  exact (srtT_eq (fun x hx => wdL_ck hm h1 h8 _ (by omega) x hx) (fun x => hi x) hp).symm
theorem durV_n {m : Mn} {s : Sp} (h : ¬ durE m s = 0) : [] = durV m s := by unfold durV; rw [if_neg h]
theorem durE_a {m : Mn} {s : Sp} (h : ckM m = 0) : chS s = durE m s := by unfold durE; rw [if_pos h]
theorem durE_b {m : Mn} {s : Sp} (h : ¬ ckM m = 0) : ckM m = durE m s := by unfold durE; rw [if_neg h]
theorem sig_n {s : Sp} {p : Int} (c : ¬ chS s = 0) : chS s = sigE s p ∧ [] = sigV s p := by
  have e : sigE s p = chS s := by unfold sigE; rw [if_neg c]
  exact ⟨e.symm, by unfold sigV; rw [if_neg (by rw [e]; exact c)]⟩
theorem durV_len (m : Mn) (s : Sp) : (durV m s).length ≤ 4000000000 := by
  by_cases h : durE m s = 0
  · have hm : ckM m = 0 := by
      apply Classical.byContradiction; intro hn
      rw [← durE_b hn] at h; exact hn h
    have c : chS s = 0 := by rw [durE_a hm]; exact h
    obtain ⟨h1, h8, w1, w8, -⟩ := chS_0 c
    have := (md_law hm h1 h8 (i := (s.Way - 1).toNat) (by omega)).2.2
    rw [show (1 : Int) + (((s.Way - 1).toNat : Nat) : Int) = s.Way by omega, mdL_dur hm c] at this
    omega
  · rw [← durV_n h]; simp
theorem sigV_len (s : Sp) (p : Int) : (sigV s p).length ≤ 4000000000 := by
  unfold sigV; split
  · split
    · simp
    · split <;> simp
  · simp
attribute [local irreducible] durE durV mdL chS sigE sigV spOf
theorem C_tactusref22_check (s : Sp) : Fn Tryz.prog 15 [spA s] (iv (chS s)) := by
  refine Fn.go Tryz.func15 Tryz.ntmps15 (fun g w d => ?_)
  refine X.seq ?_
  refine X.region ?_
  refine Ex.ba ?_
  refine Ex.pu ?_
  refine Ex.nil ?_
  refine X.seq ?_
  refine X.seq ?_
  refine X.region ?_
  iterate 3 refine Ex.pu ?_
  refine ExF.at 3 ?_
  refine ExF.pu ?_
  iterate 3 refine ExF.gi ?_
  refine ExF.done ?_
  refine Ex.pu ?_
  refine Ex.nil ?_
  refine X.cd rfl (fun hc1 => ?_) (fun hc1 => ?_)
  · refine X.seq ?_
    refine X.region ?_
    refine Ex.pu ?_
    refine Ex.nil ?_
    refine X.ret ?_
    refine RetQ.ret (.one (.tmp rfl (LeV.eq ?_)))
    all_goals (exact congrArg (AV.int .i64) (chS_2 (by omega)))
  refine X.skip ?_
  refine X.seq ?_
  refine X.seq ?_
  refine X.dw [11,12,13,14,15,16,17,18,19,20,21,22,23,24,25,26,27] [0,1,3,7,15,31,63,127,255,511,511,1535,511,4607,15871,32767,65535] mo ?_
  iterate 4 refine ChM.pu ?_
  iterate 3 refine ChM.gi ?_
  iterate 2 refine ChM.pu ?_
  iterate 5 refine ChM.gi ?_
  refine ChM.cg (C_tactusref22_form s.Value s.Way) ?_
  refine ChM.gi ?_ (hs := fun hgd => Q_neq_st (eqL_spE s (spOf s.Value s.Way)) inferInstance TyK.h rfl rfl rfl rfl rfl)
  refine ChM.pu ?_
  refine ChM.tl ?_
  refine Ex.nil ?_
  refine X.cd rfl (fun hc2 => ?_) (fun hc2 => ?_)
  · refine X.seq ?_
    refine X.region ?_
    refine Ex.pu ?_
    refine Ex.nil ?_
    refine X.ret ?_
    refine RetQ.ret (.one (.tmp rfl (LeV.eq ?_)))
    all_goals (exact congrArg (AV.int .i64) (chS_8 (by omega) (by simpa using hc2)))
  refine X.skip ?_
  refine X.seq ?_
  refine X.region ?_
  refine Ex.pu ?_
  refine Ex.nil ?_
  refine X.ret ?_
  refine RetQ.ret (.one (.tmp rfl (LeV.eq ?_)))
  all_goals (exact congrArg (AV.int .i64) (chS_00 (by omega) ⟨by omega, hc2.2⟩))
theorem C_tactusref22_Durations (m : Mn) (s : Sp) : Fn Tryz.prog 5 [mnA m, spA s] (.tup [tmsA (durV m s), iv (durE m s)]) := by
  refine Fn.go Tryz.func5 Tryz.ntmps5 (fun g w d => ?_)
  refine X.seq ?_
  refine X.region ?_
  refine Ex.ba ?_
  refine Ex.ba ?_
  iterate 2 refine Ex.pu ?_
  refine Ex.nil ?_
  refine X.seq ?_
  refine X.region ?_
  refine Ex.pu ?_
  refine Ex.ca (C_tactusref05_Check m) ?_
  refine Ex.pu ?_
  refine Ex.nil ?_
  refine X.seq ?_
  refine X.seq ?_
  refine X.region ?_
  iterate 2 refine Ex.pu ?_
  refine Ex.nil ?_
  refine X.cd rfl (fun hc1 => ?_) (fun hc1 => ?_)
  · have hEa := durE_a (s := s) hc1
    refine X.region ?_
    refine Ex.pu ?_
    refine Ex.ca (C_tactusref22_check s) ?_
    refine Ex.pu ?_
    refine Ex.nil ?_
    refine X.seq ?_
    refine X.seq ?_
    refine X.region ?_
    iterate 2 refine Ex.pu ?_
    refine Ex.nil ?_
    refine X.cd rfl (fun hc2 => ?_) (fun hc2 => ?_)
    · have hE := hEa
      have hV : [] = durV m s := durV_n (by rw [← hEa]; exact hc2)
      refine X.seq ?_
      refine X.region ?_
      iterate 3 refine Ex.pu ?_
      refine Ex.nil ?_
      refine X.ret ?_
      refine RetQ.imp (Imp.au (ts := [(4, tmsA []), (5, iv (chS s))]) (hs := [])) ?_
      refine RetQ.ret (.many (by decide) (.cons (.tmp rfl (LeV.eq ?_)) (.cons (.tmp rfl (LeV.eq ?_)) .nil)))
      all_goals (first | exact congrArg tmsA hV | exact congrArg (AV.int .i64) hE)
    obtain ⟨hV1, hV8, hW1, hW8, -⟩ := chS_0 hc2
    have hM := C_tactusref22_made m hc1 s hV1 hV8 hW1 hW8
    rw [mdL_dur hc1 hc2] at hM
    have hE : 0 = durE m s := by rw [← hEa]; exact hc2.symm
    refine X.skip ?_
    refine X.seq ?_
    refine X.region ?_
    iterate 2 refine Ex.pu ?_
    refine Ex.ca hM ?_
    iterate 2 refine Ex.pu ?_
    refine Ex.nil ?_
    refine X.ret ?_
    refine RetQ.ret (.many (by decide) (.cons (.tmp rfl (LeV.eq ?_)) (.cons (.tmp rfl (LeV.eq ?_)) .nil)))
    all_goals (first | rfl | exact congrArg (AV.int .i64) hE)
  · have hEb := durE_b (s := s) hc1
    refine X.skip ?_
    refine X.seq ?_
    refine X.seq ?_
    refine X.region ?_
    iterate 2 refine Ex.pu ?_
    refine Ex.nil ?_
    refine X.cd rfl (fun hc3 => ?_) (fun hc3 => ?_)
    · have hE := hEb
      have hV : [] = durV m s := durV_n (by rw [← hEb]; exact hc1)
      refine X.seq ?_
      refine X.region ?_
      iterate 3 refine Ex.pu ?_
      refine Ex.nil ?_
      refine X.ret ?_
      refine RetQ.imp (Imp.au (ts := [(4, tmsA []), (5, iv (ckM m))]) (hs := [])) ?_
      refine RetQ.ret (.many (by decide) (.cons (.tmp rfl (LeV.eq ?_)) (.cons (.tmp rfl (LeV.eq ?_)) .nil)))
      all_goals (first | exact congrArg tmsA hV | exact congrArg (AV.int .i64) hE)
    exact absurd hc3 hc1
theorem C_tactusref22_Signs (s : Sp) (p : Int) : Fn Tryz.prog 7 [spA s, iv p] (.tup [sgsA (sigV s p), iv (sigE s p)]) := by
  refine Fn.go Tryz.func7 Tryz.ntmps7 (fun g w d => ?_)
  refine X.seq ?_
  refine X.region ?_
  refine Ex.ba ?_
  iterate 2 refine Ex.pu ?_
  refine Ex.nil ?_
  refine X.seq ?_
  refine X.region ?_
  refine Ex.pu ?_
  refine Ex.ca (C_tactusref22_check s) ?_
  refine Ex.pu ?_
  refine Ex.nil ?_
  refine X.seq ?_
  refine X.block ?_
  refine X.seq ?_
  refine X.region ?_
  iterate 3 refine Ex.pu ?_
  refine Ex.nil ?_
  refine X.cd rfl (fun hc1 => ?_) (fun hc1 => ?_)
  · obtain ⟨hE, hV⟩ := sig_n (p := p) hc1
    refine X.seq ?_
    refine X.region ?_
    iterate 3 refine Ex.pu ?_
    refine Ex.nil ?_
    refine X.ret ?_
    refine RetQ.imp (Imp.au (ts := [(4, sgsA []), (5, iv (chS s))]) (hs := [])) ?_
    refine RetQ.ret (.many (by decide) (.cons (.tmp rfl (LeV.eq ?_)) (.cons (.tmp rfl (LeV.eq ?_)) .nil)))
    all_goals (first | exact congrArg sgsA hV | exact congrArg (AV.int .i64) hE)
  obtain ⟨hV1, hV8, hW1, hW8, hR, hC, hD⟩ := chS_0 hc1
  refine X.seq ?_
  refine X.region ?_
  iterate 2 refine Ex.pu ?_
  refine ExF.at 2 ?_
  refine ExF.pu ?_
  iterate 2 refine ExF.gi ?_
  refine ExF.done ?_
  iterate 2 refine Ex.pu ?_
  refine Ex.nil ?_
  refine X.cd rfl (fun hc2 => ?_) (fun hc2 => ?_)
  · have hE : 2 = sigE s p := by unfold sigE; rw [if_pos hc1, if_pos hc2]
    have hV : [] = sigV s p := by unfold sigV; rw [if_neg (by omega)]
    refine X.seq ?_
    refine X.region ?_
    iterate 2 refine Ex.pu ?_
    refine Ex.nil ?_
    refine X.ret ?_
    refine RetQ.imp (Imp.au (ts := [(4, sgsA []), (5, iv 2)]) (hs := [])) ?_
    refine RetQ.ret (.many (by decide) (.cons (.tmp rfl (LeV.eq ?_)) (.cons (.tmp rfl (LeV.eq ?_)) .nil)))
    all_goals (first | exact congrArg sgsA hV | exact congrArg (AV.int .i64) hE)
  have hE : 0 = sigE s p := by unfold sigE; rw [if_pos hc1, if_neg (by omega)]
  refine X.seq ?_
  refine X.region ?_
  iterate 3 refine Ex.pu ?_
  refine Ex.nil ?_
  refine X.cd rfl (fun hc3 => ?_) (fun hc3 => ?_)
  · have h8 : s.Way = 8 := by rw [hR] at hc3; simpa using hc3
    have hV : [sgRest s.Value] = sigV s p := by unfold sigV; rw [if_pos hE.symm, if_pos h8]
    refine X.seq ?_
    refine X.region ?_
    iterate 3 refine Ex.pu ?_
    refine Ex.bs sgE [sgRest s.Value] ?_
    iterate 2 refine Ex.pu ?_
    refine Ex.nil ?_
    refine X.ret ?_
    refine RetQ.imp (Imp.freeze (k := 27) rfl) ?_
    refine RetQ.ret (.many (by decide) (.cons (.tmp rfl (LeV.eq ?_)) (.cons (.tmp rfl (LeV.eq ?_)) .nil)))
    all_goals (first | exact congrArg sgsA hV | exact congrArg (AV.int .i64) hE)
  have h8 : ¬ s.Way = 8 := by rw [hR] at hc3; simpa using hc3
  refine X.skip ?_
  refine X.seq ?_
  refine X.region ?_
  iterate 6 refine Ex.pu ?_
  refine Ex.bs sgE [sgN s.Value p s.Color] ?_
  refine Ex.pu ?_
  refine Ex.nil ?_
  refine X.seq ?_
  refine X.seq ?_
  refine X.region ?_
  iterate 2 refine Ex.pu ?_
  refine Ex.nil ?_
  refine X.cd rfl (fun hc4 => ?_) (fun hc4 => ?_)
  · have h26 : s.Way = 2 ∨ s.Way = 6 := by rw [hD] at hc4; simpa using hc4
    have hV : [sgN s.Value p s.Color] ++ [sgDot] = sigV s p := by rw [hC]; unfold sigV; rw [if_pos hE.symm, if_neg h8, if_pos h26]; rfl
    refine X.region ?_
    iterate 2 refine Ex.pu ?_
    refine Ex.bs sgE [sgDot] ?_
    refine Ex.mo ?_
    refine Ex.pu ?_
    refine Ex.nil ?_
    refine X.seq ?_
    refine X.region ?_
    iterate 3 refine Ex.pu ?_
    refine Ex.nil ?_
    refine X.ret ?_
    refine RetQ.imp (Imp.freeze (k := 34) rfl) ?_
    refine RetQ.ret (.many (by decide) (.cons (.tmp rfl (LeV.eq ?_)) (.cons (.tmp rfl (LeV.eq ?_)) .nil)))
    all_goals (first | exact congrArg sgsA hV | exact congrArg (AV.int .i64) hE)
  · have h26 : ¬ (s.Way = 2 ∨ s.Way = 6) := by rw [hD] at hc4; simpa using hc4
    have hV : [sgN s.Value p s.Color] = sigV s p := by rw [hC]; unfold sigV; rw [if_pos hE.symm, if_neg h8, if_neg h26]
    refine X.skip ?_
    refine X.seq ?_
    refine X.region ?_
    iterate 3 refine Ex.pu ?_
    refine Ex.nil ?_
    refine X.ret ?_
    refine RetQ.imp (Imp.freeze (k := 34) rfl) ?_
    refine RetQ.ret (.many (by decide) (.cons (.tmp rfl (LeV.eq ?_)) (.cons (.tmp rfl (LeV.eq ?_)) .nil)))
    all_goals (first | exact congrArg sgsA hV | exact congrArg (AV.int .i64) hE)
theorem C_spell_SignsN (s : Sp) (p : Int) (c : ¬ chS s = 0) : Fn Tryz.prog 6 [spA s, iv p] (.tup [sgsA (sigV s p), iv (sigE s p)]) := by
  obtain ⟨hE, hV⟩ := sig_n (p := p) c
  refine Fn.go Tryz.func6 Tryz.ntmps6 (fun g w d => ?_)
  refine X.seq ?_
  refine X.region ?_
  refine Ex.ba ?_
  iterate 2 refine Ex.pu ?_
  refine Ex.nil ?_
  refine X.seq ?_
  refine X.region ?_
  refine Ex.pu ?_
  refine Ex.ca (C_spell_checkN s c) ?_
  iterate 3 refine Ex.pu ?_
  refine Ex.al ?_
  refine Ex.mo ?_
  refine Ex.pu ?_
  refine Ex.nil ?_
  refine X.seq ?_
  refine X.seq ?_
  refine X.region ?_
  iterate 2 refine Ex.pu ?_
  refine Ex.nil ?_
  refine X.cd rfl (fun hc1 => ?_) (fun hc1 => ?_)
  · refine X.seq ?_
    refine X.region ?_
    iterate 3 refine Ex.pu ?_
    refine Ex.nil ?_
    refine X.ret ?_
    refine RetQ.imp (Imp.au (ts := [(4, sgsA []), (5, iv (chS s))]) (hs := [])) ?_
    refine RetQ.ret (.many (by decide) (.cons (.tmp rfl (LeV.eq ?_)) (.cons (.tmp rfl (LeV.eq ?_)) .nil)))
    all_goals (first | exact congrArg sgsA hV | exact congrArg (AV.int .i64) hE)
  exact absurd hc1 c
theorem C_spell_Signs (s : Sp) (p : Int) : Fn Tryz.prog 6 [spA s, iv p] (.tup [sgsA (sigV s p), iv (sigE s p)]) := by
  by_cases c : chS s = 0
  · exact C_spell_SignsY s p c
  · exact C_spell_SignsN s p c
theorem C_tactuslaw22_SpellDurations (m : Mn) (s : Sp) (p : Int) : Fn Tryz.prog 3 [mnA m, spA s, iv p] (.bool true) := by
  have hA := durV_len m s
  have hS := sigV_len s p
  refine Fn.go Tryz.func3 Tryz.ntmps3 (fun g w d => ?_)
  refine X.seq ?_
  refine X.region ?_
  refine Ex.ba ?_
  refine Ex.ba ?_
  refine Ex.pu ?_
  refine Ex.nil ?_
  refine X.seq ?_
  refine X.region ?_
  iterate 2 refine Ex.pu ?_
  refine Ex.ca (C_spell_Durations m s) ?_
  iterate 5 refine Ex.pu ?_
  refine Ex.nil ?_
  refine X.seq ?_
  refine X.region ?_
  iterate 2 refine Ex.pu ?_
  refine Ex.ca (C_tactusref22_Durations m s) ?_
  iterate 5 refine Ex.pu ?_
  refine Ex.nil ?_
  refine X.seq ?_
  refine X.region ?_
  iterate 2 refine Ex.pu ?_
  refine Ex.ca (C_spell_Signs s p) ?_
  iterate 5 refine Ex.pu ?_
  refine Ex.nil ?_
  refine X.seq ?_
  refine X.region ?_
  iterate 2 refine Ex.pu ?_
  refine Ex.ca (C_tactusref22_Signs s p) ?_
  iterate 5 refine Ex.pu ?_
  refine Ex.nil ?_
  refine X.seq ?_
  refine X.region ?_
  iterate 2 refine Ex.pu ?_
  refine Ex.ca (C_times_eq (durV m s) (by omega)) ?_
  refine ExF.at 3 ?_
  refine ExF.pu ?_
  iterate 3 refine ExF.gi ?_
  iterate 2 refine ExF.pu ?_
  iterate 2 refine ExF.gi ?_
  refine ExF.cg (C_signs_eq (sigV s p) (by omega)) ?_
  iterate 2 refine ExF.pu ?_
  iterate 3 refine ExF.gi ?_
  iterate 2 refine ExF.pu ?_
  refine ExF.cg C_tactuslaw22_awake ?_
  refine ExF.done ?_
  iterate 2 refine Ex.pu ?_
  refine Ex.nil ?_
  refine X.ret ?_
  refine RetQ.ret (.one (.tmp rfl (LeV.eq ?_)))
  all_goals (simp)
end Go.Rse
