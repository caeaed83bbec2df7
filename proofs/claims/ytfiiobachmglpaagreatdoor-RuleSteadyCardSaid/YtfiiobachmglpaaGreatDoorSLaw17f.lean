/-
  Walks: the statement on what keeps its duration.
-/
import Derived.Test.YtfiiobachmglpaaGreatDoorSLaw17e
set_option linter.unusedSimpArgs false
set_option linter.unusedVariables false
namespace Go.Rse
open Go Go.Proofs
attribute [local irreducible] Pur StepA StepM Ex X ExG Fn Imp LeV LeB FnO It YStep FnW FnOW FnP FnD
theorem mn_eq {m : Mn} (h1 : m.Max = 2) (h2 : m.Mod = 2) (h3 : m.Tem = 2) (h4 : m.Pro = 2) : m = ⟨2, 2, 2, 2⟩ := by
 cases m; simp at h1 h2 h3 h4; subst h1 h2 h3 h4; rfl
theorem pf_half : perfL ⟨2, 2, 2, 2⟩ = [] := by decide
attribute [local irreducible] rdE rdV rdI ruleD prL perfL fullT durT ntN pairL
set_option maxHeartbeats 8000000 in
set_option maxRecDepth 100000 in
theorem C_tactuslaw17_RuleSteady (n : Int) (nums : List Int) (hn : -9223372036854775808 <= n /\ n <= 9223372036854775807) (hr : ∀ x, x ∈ nums -> -9223372036854775808 <= x /\ x <= 9223372036854775807) (hnl : nums.length <= maxLen) : Fn Tryz.prog 7 [iv n, intsA nums] (.bool true) := by
 have hm := C_tactuskit_Mens n hn
 have hM := mMk_ck n
 generalize mMk n = m at hm hM
 have hRun := C_tactuskit_Run m nums 16 (by decide) (by decide) hr hnl
 have hlen := rnL_len m nums (most := 16) (by decide)
 have hG := rnL_gr m nums 16
 have hrest := rnK_rest m nums 16 nums.length
 rw [show rnK m nums 16 nums.length = rnL m nums 16 from rfl] at hrest
 generalize rnL m nums 16 = l at hRun hlen hG hrest
 have h0 := gr_ck hM hG
 have hD : DotsOk l := gr_dots hG
 have hP := C_color_Pairs' m l (by omega)
 rw [h0] at hP
 have hFull := fun v => C_mens_FullV (m := m) (v := v) hM
 have hBlk := fun v => C_color_DurV (m := m) (v := v) hM
 have hn0 : ntN l 0 = 0 := by unfold ntN; rfl
 refine Fn.go Tryz.func7 Tryz.ntmps7 (fun g w d => ?_)
 apply X.sr
 refine Ex.pu ?_
 apply Ex.ns
 refine Ex.ca C_tactuslaw17_RuleKnown ?_
 refine Ex.pu ?_
 apply Ex.ns
 refine Ex.pu ?_
 refine Ex.ca hm ?_
 refine Ex.al ?_
 refine Ex.mo ?_
 apply Ex.ns
 iterate 2 refine Ex.pu ?_
 refine Ex.ca hRun ?_
 refine Ex.pu ?_
 apply Ex.ns
 iterate 2 refine Ex.pu ?_
 refine Ex.ca (C_rule_Read m l (by omega)) ?_
 iterate 3 refine Ex.pu ?_
 refine Ex.al ?_
 refine Ex.mo ?_
 refine Ex.pu ?_
 apply Ex.nil
 apply X.seq
 apply X.sr
 iterate 2 refine Ex.pu ?_
 apply Ex.nil
 refine X.cd rfl (fun hc1 => ?_) (fun hc1 => ?_)
 ·apply X.sr
  iterate 2 refine Ex.pu ?_
  apply Ex.nil
  refine X.ret ?_
  refine RetQ.ret (.one (.tmp rfl (LeV.eq ?_)))
  all_goals (first | rfl | (simp; omega))
 have he0 : rdE m l = 0 := by omega
 have hdl := rd_len h0 hD he0
 apply X.skip
 apply X.sr
 iterate 2 refine Ex.pu ?_
 refine Ex.co [(39, 39)] hP ?_
 iterate 5 refine Ex.pu ?_
 apply Ex.ns
 refine Ex.pu ?_
 apply Ex.nil
 apply X.seq
 apply X.sr
 refine Ex.pu ?_
 apply Ex.nil
 apply X.block
 refine X.lp (ι := Nat) (fun (k : Nat) => [(5, .bool true), (6, .ptr 6 0 0 0), (7, sgsA l), (8, .ptr 8 0 0 0), (10, .own 39), (11, iv 0), (12, iv (ntN l k : Int)), (13, iv (k : Int))]) (fun (k : Nat) => [(6, .box (mnE m) 23), (8, .box (rdgE (rdV m l)) 41), (39, .row intE (prL m l) 3 1)]) (fun (k : Nat) => k <= l.length) (fun (k : Nat) => l.length - k) 0 (fun k hk => ?_)
 apply X.seq
 apply X.sr
 iterate 4 refine Ex.pu ?_
 apply Ex.nil
 refine X.cd rfl (fun hc2 => ?_) (fun hc2 => ?_)
 ·obtain ⟨s, hs⟩ : ∃ s, l[k]? = some s := ⟨_, List.getElem?_eq_getElem (by omega)⟩
  have hs2 : l[(k : Int).toNat]? = some s := by simpa using hs
  have hnl := ntN_le l k
  apply X.skip
  apply X.seq
  apply X.block
  apply X.seq
  apply X.sr
  iterate 6 refine Ex.pu ?_
  apply Ex.nil
  refine X.cd rfl (fun hc3 => ?_) (fun hc3 => ?_)
  ·have hnt := ntN_dot hs hc3
   apply X.exit
   apply X.region
   iterate 3 refine Ex.pu ?_
   apply Ex.nil
   refine X.bk (k + 1)
  have h3 : ¬ s.Kind = 3 := hc3
  have hZ1 := rd_at h0 hD he0 hs h3
  obtain ⟨d, d1, d2, d3, d4, d5, d6⟩ := hZ1
  have d1b : (rdV m l).Durs[((ntN l k : Nat) : Int).toNat]? = some d := by simpa using d1
  have dlt := (List.getElem?_eq_some_iff.1 d1).1
  have hnt := ntN_nr hs h3
  have dD := (ckT_b d2).2.2.2.2.1
  have hZ2 := ckFrom_val h0 hs h3
  obtain ⟨-, v1, v8⟩ := hZ2
  have hkd := ck_kind h0 hs h3
  have hrs := hrest s (List.mem_of_getElem? hs)
  have hnd : (decide ((k : Int) + 1 < (l.length : Int)) && decide ((l.getD ((k : Int) + 1).toNat default).Kind = 3)) = false -> ∀ z, l[k + 1]? = some z -> ¬ z.Kind = 3 := fun h z hz h4 => by
   have hl := (List.getElem?_eq_some_iff.1 hz).1
   rw [show ((k : Int) + 1).toNat = k + 1 by omega, getD_of hz, decide_eq_true h4, decide_eq_true (show (k : Int) + 1 < (l.length : Int) by omega)] at h
   cases h
  have hnd2 : ((l.length : Int) <= (k : Int) + 1 \/ ¬ (l.getD ((k : Int) + 1).toNat default).Kind = 3) -> ∀ z, l[k + 1]? = some z -> ¬ z.Kind = 3 := fun h z hz h4 => by
   have hl := (List.getElem?_eq_some_iff.1 hz).1
   rcases h with h | h
   ·omega
   ·rw [show ((k : Int) + 1).toNat = k + 1 by omega, getD_of hz] at h; exact h h4
  apply X.skip
  apply X.seq
  apply X.sr
  iterate 5 refine Ex.pu ?_
  refine ExF.at 5 ?_
  refine ExF.pu ?_
  iterate 2 refine ExF.gi ?_
  refine ExF.done ?_
  refine Ex.pu ?_
  apply Ex.nil
  refine X.cd rfl (fun hc4 => ?_) (fun hc4 => ?_)
  ·(first | (simp at hc4; omega) | omega)
  apply X.skip
  apply X.sr
  iterate 5 refine Ex.pu ?_
  refine Ex.al ?_
  refine Ex.mo ?_
  apply Ex.ns
  iterate 3 refine Ex.pu ?_
  apply Ex.nil
  apply X.seq
  apply X.sr
  iterate 3 refine Ex.pu ?_
  refine ExF.at 3 ?_
  refine ExF.pu ?_
  iterate 3 refine ExF.gi ?_
  refine ExF.done ?_
  refine Ex.pu ?_
  apply Ex.nil
  refine X.cd rfl (fun hc5 => ?_) (fun hc5 => ?_)
  ·omega
  apply X.skip
  refine X.seqJ ⟨[(5, .bool true), (6, .ptr 6 0 0 0), (7, sgsA l), (8, .ptr 8 0 0 0), (10, .own 39), (11, iv 0), (12, iv ((ntN l k : Int) + 1)), (13, iv (k : Int)), (14, .ptr 14 0 0 0), (15, .bool (decide ((k : Int) + 1 < (l.length : Int)) && decide ((l.getD ((k : Int) + 1).toNat default).Kind = 3)))], [(6, .box (mnE m) 23), (8, .box (rdgE (rdV m l)) 41), (39, .row intE (prL m l) 3 1), (14, .box (tmE d) 60)]⟩ (fun hJ20 => ?_) ?_
  ·apply X.region
   iterate 5 refine Ex.pu ?_
   refine ExF.at 5 ?_
   refine ExF.pu ?_
   iterate 7 refine ExF.gi ?_
   refine ExF.done ?_
   iterate 2 refine Ex.pu ?_
   apply Ex.nil
   exact X.imp Imp.ax hJ20
  refine X.seqJ ⟨[(5, .bool true), (6, .ptr 6 0 0 0), (7, sgsA l), (8, .ptr 8 0 0 0), (10, .own 39), (11, iv 0), (12, iv ((ntN l k : Int) + 1)), (13, iv (k : Int)), (14, .ptr 14 0 0 0), (15, .bool (decide ((k : Int) + 1 < (l.length : Int)) && decide ((l.getD ((k : Int) + 1).toNat default).Kind = 3))), (16, .ptr 16 0 0 0), (17, iv 0)], [(6, .box (mnE m) 23), (8, .box (rdgE (rdV m l)) 41), (39, .row intE (prL m l) 3 1), (14, .box (tmE d) 60), (16, .box (tmE (fullT m s.Value)) 60)]⟩ (fun hJ21 => ?_) ?_
  ·refine X.dw [16,92,93,94,95,96,97,98,99,100,101] [0,0,0,6,14,30,63,127,255,255,0,1535,4095] mo ?_
   iterate 6 refine ChM.pu ?_
   refine ChM.ca (hFull s.Value v1 v8) ?_
   iterate 3 refine ChM.pu ?_
   refine ChM.step rfl rfl rfl (A_alloc (k := 16) zc60) rfl ?_
   refine ChM.lt 9 ?_ ?_
   ·refine Ex.mo ?_
    refine Ex.pu ?_
    apply Ex.nil
    exact X.imp Imp.ax hJ21
   ·refine Ex.mo ?_
    iterate 2 refine Ex.pu ?_
    apply Ex.nil
    exact X.imp Imp.ax hJ21
  refine X.seqJ ⟨[(5, .bool true), (6, .ptr 6 0 0 0), (7, sgsA l), (8, .ptr 8 0 0 0), (10, .own 39), (11, iv 0), (12, iv ((ntN l k : Int) + 1)), (13, iv (k : Int)), (14, .ptr 14 0 0 0), (15, .bool (decide ((k : Int) + 1 < (l.length : Int)) && decide ((l.getD ((k : Int) + 1).toNat default).Kind = 3))), (16, .ptr 16 0 0 0), (17, iv 0), (18, .ptr 18 0 0 0), (19, iv 0)], [(6, .box (mnE m) 23), (8, .box (rdgE (rdV m l)) 41), (39, .row intE (prL m l) 3 1), (14, .box (tmE d) 60), (16, .box (tmE (fullT m s.Value)) 60), (18, .box (tmE (durT m s.Value)) 60)]⟩ (fun hJ22 => ?_) ?_
  ·refine X.dw [18,102,103,104,105,106,107,108,109,110,111] [0,0,0,6,14,30,63,127,255,255,0,1535,4095] mo ?_
   iterate 6 refine ChM.pu ?_
   refine ChM.ca (hBlk s.Value v1 v8) ?_
   iterate 3 refine ChM.pu ?_
   refine ChM.step rfl rfl rfl (A_alloc (k := 18) zc60) rfl ?_
   refine ChM.lt 9 ?_ ?_
   ·refine Ex.mo ?_
    refine Ex.pu ?_
    apply Ex.nil
    exact X.imp Imp.ax hJ22
   ·refine Ex.mo ?_
    iterate 2 refine Ex.pu ?_
    apply Ex.nil
    exact X.imp Imp.ax hJ22
  apply X.seq
  apply X.sr
  iterate 2 refine Ex.pu ?_
  refine ExF.at 2 ?_
  refine ExF.pu ?_
  iterate 2 refine ExF.gi ?_
  refine ExF.done ?_
  refine Ex.pu ?_
  apply Ex.nil
  refine X.cd rfl (fun hc6 => ?_) (fun hc6 => ?_)
  ·(first | (simp at hc6; done) | omega)
  apply X.skip
  apply X.sr
  iterate 6 refine Ex.pu ?_
  refine ExF.at 6 ?_
  refine ExF.pu ?_
  iterate 6 refine ExF.gi ?_
  iterate 2 refine ExF.pu ?_
  iterate 2 refine ExF.gi ?_
  refine ExF.done ?_
  iterate 2 refine Ex.pu ?_
  apply Ex.ns
  iterate 6 refine Ex.pu ?_
  refine ExF.at 6 ?_
  refine ExF.pu ?_
  iterate 3 refine ExF.gi ?_
  iterate 2 refine ExF.pu ?_
  iterate 11 refine ExF.gi ?_
  iterate 2 refine ExF.pu ?_
  iterate 19 refine ExF.gi ?_
  refine ExF.done ?_
  refine Ex.pu ?_
  apply Ex.nil
  refine X.cd rfl (fun hc7 => ?_) (fun hc7 => ?_)
  ·(rcases hc7 with (⟨a, b⟩ | ⟨⟨⟨⟨a, b⟩, c⟩, e1, e2, e3, e4, -⟩, f⟩) | ⟨⟨⟨a, c⟩, b⟩, f⟩; (exact (b (d4 a)).elim); (exact (f (d5 a b (hnd2 c) (by rw [mn_eq e1 e2 e3 e4]; exact pf_half))).elim); (exact (f (d6 (hrs.resolve_right (by rw [a]; decide)) a (hnd2 c) (List.length_eq_zero_iff.1 (by omega)))).elim))
  apply X.skip
  apply X.region
  iterate 3 refine Ex.pu ?_
  apply Ex.nil
  refine X.bk (k + 1)
 ·obtain rfl : k = l.length := by omega
  apply X.exit
  apply X.sr
  refine Ex.pu ?_
  refine ExF.at 1 ?_
  refine ExF.pu ?_
  iterate 5 refine ExF.gi ?_
  refine ExF.done ?_
  iterate 2 refine Ex.pu ?_
  apply Ex.nil
  refine X.ret ?_
  refine RetQ.ret (.one (.tmp rfl (LeV.eq ?_)))
  all_goals (first | rfl | (simp; omega))
end Go.Rse
