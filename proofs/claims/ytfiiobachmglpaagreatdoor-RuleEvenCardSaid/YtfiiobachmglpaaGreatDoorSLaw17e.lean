/-
  Walks: the statements on the rule that speak of its readings.
-/
import Derived.Test.YtfiiobachmglpaaGreatDoorSLaw17d
set_option linter.unusedSimpArgs false
set_option linter.unusedVariables false
namespace Go.Rse
open Go Go.Proofs
attribute [local irreducible] Pur StepA StepM Ex X ExG Fn Imp LeV LeB FnO It YStep FnW FnOW FnP FnD
section
variable {m : Mn} {l : List Sg}
theorem rd_le (h0 : ckD m l = 0) (he : rdE m l = 0) : leE m (rdI m l) = 0 := by unfold rdE at he; rw [if_pos h0] at he; exact he
theorem al_end (h0 : ckD m l = 0) (he : rdE m l = 0) : ((lvN m (perfL m) (rdI m l) (perfL m).length).1.length = (rdV m l).Choices.length) /\ (lvN m (perfL m) (rdI m l) (perfL m).length).2.length = (rdV m l).Durs.length ∧
 ∀ (j : Nat) x, (lvN m (perfL m) (rdI m l) (perfL m).length).2[j]? = some x -> (rdV m l).Durs[j]? = some x.Dur := by
 have hl := rd_le h0 he
 obtain ⟨hM, hI⟩ := le_0 hl
 obtain ⟨e1, e2⟩ := lv_end hM hI hl
 obtain ⟨-, e3⟩ := rd_c h0 hl
 rw [e1, e2, e3]
 refine ⟨rfl, by simp, fun j x hx => ?_⟩
 show ((leI m (rdI m l)).map (·.Dur))[j]? = _
 rw [List.getElem?_map, hx]; rfl
theorem al_len (h0 : ckD m l = 0) (he : rdE m l = 0) {n : Nat} (hn : n <= (perfL m).length) : (lvN m (perfL m) (rdI m l) n).2.length = (rdI m l).length /\ (lvN m (perfL m) (rdI m l) n).1.length <= n * (2 * (rdI m l).length + 2) := by
 have hl := rd_le h0 he
 obtain ⟨hM, hI⟩ := le_0 hl
 have h := lv_all hM hI hl n hn
 exact ⟨h.len, h.cho⟩
theorem C_al_seg (h0 : ckD m l = 0) (he : rdE m l = 0) (hl : l.length <= 1000) {n : Nat} {k : Int} (hk : (perfL m)[n]? = some k) : Fn Tryz.prog 35 [mnA m, iv k, itsA (lvN m (perfL m) (rdI m l) n).2] (.tup [smsA (segV m k (lvN m (perfL m) (rdI m l) n).2), iv 0]) := by
 have hle := rd_le h0 he
 obtain ⟨hM, hI⟩ := le_0 hle
 have hp := lv_part hM hI hle hk
 have hkb := pfl_at hk
 have hil := rdI_len (m := m) (l := l)
 have hin := (al_len h0 he (n := n) (Nat.le_of_lt (List.getElem?_eq_some_iff.1 hk).1)).1
 have h := C_level_Segments m k (lvN m (perfL m) (rdI m l) n).2 (by omega) (by omega) (by omega)
 rw [hp.2.2.2.1] at h; exact h
theorem C_al_app (h0 : ckD m l = 0) (he : rdE m l = 0) (hl : l.length <= 1000) {n : Nat} {k : Int} (hk : (perfL m)[n]? = some k) {a b : Nat} (ha : a = (lvN m (perfL m) (rdI m l) n).1.length) (hb : b = (segV m k (lvN m (perfL m) (rdI m l) n).2).length) :
 Fn Tryz.prog 36 [mnA m, iv k, itsA (lvN m (perfL m) (rdI m l) n).2, intsA (((rdV m l).Choices.drop a).take b)] (.tup [itsA (lvN m (perfL m) (rdI m l) (n + 1)).2, iv 0]) := by
 have hle := rd_le h0 he
 obtain ⟨hM, hI⟩ := le_0 hle
 obtain ⟨p1, p2, p3, p4, p5, p6⟩ := lv_part hM hI hle hk
 have hkb := pfl_at hk
 have hil := rdI_len (m := m) (l := l)
 have hin := (al_len h0 he (n := n) (Nat.le_of_lt (List.getElem?_eq_some_iff.1 hk).1)).1
 have hcl := cuV_len (m := m) (k := k) (l := (lvN m (perfL m) (rdI m l) n).2)
 have h := C_level_Apply m k (lvN m (perfL m) (rdI m l) n).2 (cuV m k (lvN m (perfL m) (rdI m l) n).2) (by omega) (by omega) (by omega) (by omega)
 rw [p5, p6] at h
 obtain ⟨-, e3⟩ := rd_c h0 hle
 subst ha hb
 rw [e3]
 show Fn _ _ [mnA m, iv k, itsA _, intsA (((leC m (rdI m l)).drop _).take _)] _
 rw [p2]; exact h
theorem al_fit (h0 : ckD m l = 0) (he : rdE m l = 0) {n : Nat} {k : Int} (hk : (perfL m)[n]? = some k) : (lvN m (perfL m) (rdI m l) n).1.length + (segV m k (lvN m (perfL m) (rdI m l) n).2).length <= (rdV m l).Choices.length ∧
 (lvN m (perfL m) (rdI m l) (n + 1)).1.length = (lvN m (perfL m) (rdI m l) n).1.length + (segV m k (lvN m (perfL m) (rdI m l) n).2).length := by
 have hle := rd_le h0 he
 obtain ⟨hM, hI⟩ := le_0 hle
 obtain ⟨p1, p2, p3, -⟩ := lv_part hM hI hle hk
 obtain ⟨-, e3⟩ := rd_c h0 hle
 rw [e3]; exact ⟨p1, p3⟩
end
theorem lvN_0 (m : Mn) (L : List Int) (l : List Ite) : (lvN m L l 0) = ([], l) := rfl
theorem C_color_DurV {m : Mn} {v : Int} (hm : ckM m = 0) (h1 : 1 <= v) (h8 : v <= 8) : Fn Tryz.prog 39 [mnA m, iv v] (.tup [tmA (durT m v), iv 0]) := by
 have h := C_color_Dur m v
 rw [ckMV_zero hm h1 h8, if_pos rfl] at h; exact h
attribute [local irreducible] rdE rdV cuV cuE leC leI leE lvN rdI ruleD prL segV perfL fullT durT ntN pairL
set_option maxHeartbeats 8000000 in
set_option maxRecDepth 100000 in
theorem C_tactuslaw17_RuleAllowed (n : Int) (nums : List Int) (hn : -9223372036854775808 <= n /\ n <= 9223372036854775807) (hr : ∀ x, x ∈ nums -> -9223372036854775808 <= x /\ x <= 9223372036854775807) (hnl : nums.length <= maxLen) : Fn Tryz.prog 6 [iv n, intsA nums] (.bool true) := by
 have hm := C_tactuskit_Mens n hn
 have hM := mMk_ck n
 generalize mMk n = m at hm hM
 have hRun := C_tactuskit_Run m nums 16 (by decide) (by decide) hr hnl
 have hlen := rnL_len m nums (most := 16) (by decide)
 have hG := rnL_gr m nums 16
 have hrest := rnK_rest m nums 16 nums.length
 rw [show rnK m nums 16 nums.length = rnL m nums 16 from rfl] at hrest
 generalize rnL m nums 16 = l at hRun hlen hG hrest
 have h0 := gr_ck hM hG
 have hD : DotsOk l := gr_dots hG
 have hR := C_item_Rule m l (by omega)
 rw [if_pos h0, h0] at hR
 have hI : Fn Tryz.prog 33 [mnA m, sgsA l, intsA (ruleD m l), intsA (twos (prL m l).length)] (.tup [itsA (rdI m l), iv 0]) := by
  have hpl : (twos (prL m l).length).length <= 1000 := by rw [twos_len]; have := prL_len m l; omega
  have h := C_item_Items m l (ruleD m l) (twos (prL m l).length) (by omega) hpl
  rw [rd_it h0] at h; unfold rdI; exact h
 have hL := C_mens_Levels m
 rw [hM, if_pos rfl] at hL
 have hp4 := pfl_len m
 have hErr := rd_err h0 hD
 have hLens := rdV_lens m (l := l) (by omega)
 have hdl : (ruleD m l).length <= 4000000 := by have := rule_len m l; have := mnsD_len m l; omega
 have hpl : (twos (prL m l).length).length <= 1000 := by rw [twos_len]; have := prL_len m l; omega
 refine Fn.go Tryz.func6 Tryz.ntmps6 (fun g w d => ?_)
 apply X.sr
 refine Ex.pu ?_
 apply Ex.ns
 refine Ex.ca C_tactuslaw17_RuleKnown ?_
 refine Ex.pu ?_
 apply Ex.ns
 refine Ex.pu ?_
 refine Ex.ca hm ?_
 refine Ex.al ?_
 refine Ex.mo ?_
 apply Ex.ns
 iterate 2 refine Ex.pu ?_
 refine Ex.ca hRun ?_
 refine Ex.pu ?_
 apply Ex.ns
 iterate 2 refine Ex.pu ?_
 refine Ex.ca (C_rule_Read m l (by omega)) ?_
 iterate 3 refine Ex.pu ?_
 refine Ex.al ?_
 refine Ex.mo ?_
 refine Ex.pu ?_
 apply Ex.ns
 iterate 2 refine Ex.pu ?_
 refine Ex.ca hR ?_
 iterate 7 refine Ex.pu ?_
 apply Ex.ns
 iterate 4 refine Ex.pu ?_
 refine Ex.ca hI ?_
 iterate 5 refine Ex.pu ?_
 apply Ex.ns
 refine Ex.pu ?_
 refine Ex.ca hL ?_
 iterate 5 refine Ex.pu ?_
 apply Ex.nil
 apply X.seq
 apply X.sr
 iterate 2 refine Ex.pu ?_
 refine ExF.at 2 ?_
 refine ExF.pu ?_
 iterate 2 refine ExF.gi ?_
 iterate 2 refine ExF.pu ?_
 iterate 2 refine ExF.gi ?_
 iterate 2 refine ExF.pu ?_
 iterate 3 refine ExF.gi ?_
 refine ExF.done ?_
 refine Ex.pu ?_
 apply Ex.nil
 refine X.cd rfl (fun hc1 => ?_) (fun hc1 => ?_)
 ·(first | (simp at hc1; omega) | omega)
 apply X.skip
 apply X.seq
 apply X.sr
 iterate 2 refine Ex.pu ?_
 apply Ex.nil
 refine X.cd rfl (fun hc2 => ?_) (fun hc2 => ?_)
 ·apply X.sr
  refine Ex.pu ?_
  refine ExF.at 1 ?_
  refine ExF.pu ?_
  iterate 6 refine ExF.gi ?_
  refine ExF.done ?_
  iterate 2 refine Ex.pu ?_
  apply Ex.nil
  refine X.ret ?_
  refine RetQ.ret (.one (.tmp rfl (LeV.eq ?_)))
  all_goals (first | rfl | (simp; omega))
 have he0 : rdE m l = 0 := by omega
 have hV := (rd_c h0 (rd_le h0 he0)).2
 have hZ1 := al_end h0 he0
 obtain ⟨n1, n2, n3⟩ := hZ1
 have hz1 : rdI m l = (lvN m (perfL m) (rdI m l) 0).2 := by rw [lvN_0]
 have hz2 : (lvN m (perfL m) (rdI m l) 0).1.length = 0 := by rw [lvN_0]; rfl
 apply X.skip
 apply X.seq
 apply X.sr
 iterate 3 refine Ex.pu ?_
 refine Ex.ca (C_tactuskit_SameInts (rdV m l).Dots (ruleD m l) (by omega)) ?_
 refine Ex.pu ?_
 refine ExF.at 5 ?_
 refine ExF.pu ?_
 iterate 3 refine ExF.gi ?_
 refine ExF.cg (C_tactuskit_SameInts (rdV m l).Minor (twos (prL m l).length) (by omega)) ?_
 refine ExF.gi ?_
 refine ExF.done ?_
 refine Ex.pu ?_
 apply Ex.nil
 refine X.cd rfl (fun hc3 => ?_) (fun hc3 => ?_)
 ·(rw [hV] at hc3; simp at hc3)
 apply X.skip
 apply X.sr
 refine Ex.pu ?_
 apply Ex.nil
 apply X.seq
 apply X.sr
 refine Ex.pu ?_
 apply Ex.nil
 apply X.block
 refine X.lp (ι := Nat) (fun (k : Nat) => [(5, .bool true), (6, .ptr 6 0 0 0), (7, sgsA l), (8, .ptr 8 0 0 0), (13, itsA (lvN m (perfL m) (rdI m l) k).2), (15, intsA (perfL m)), (17, iv ((lvN m (perfL m) (rdI m l) k).1.length : Int)), (18, iv (k : Int))]) (fun (k : Nat) => [(6, .box (mnE m) 23), (8, .box (rdgE (rdV m l)) 41)]) (fun (k : Nat) => k <= (perfL m).length) (fun (k : Nat) => (perfL m).length - k) 0 (fun k hk => ?_) (h0 := by
  exact Imp.ax)
 apply X.seq
 apply X.sr
 iterate 4 refine Ex.pu ?_
 apply Ex.nil
 refine X.cd rfl (fun hc4 => ?_) (fun hc4 => ?_)
 ·obtain ⟨kk, hk⟩ : ∃ kk, (perfL m)[k]? = some kk := ⟨_, List.getElem?_eq_getElem (by omega)⟩
  have hk2 : (perfL m)[(k : Int).toNat]? = some kk := by simpa using hk
  have hZ2 := al_fit h0 he0 hk
  obtain ⟨f1, f2⟩ := hZ2
  have hZ3 := al_len h0 he0 (n := k) (by omega)
  obtain ⟨f3, f4⟩ := hZ3
  apply X.skip
  apply X.seq
  apply X.block
  apply X.seq
  refine X.dw [19,20,98,99,100,101,102,103,104,105,106,107] [0,0,0,6,14,0,63,127,255,255,511,2047] mo ?_
  iterate 6 refine ChM.pu ?_
  refine ChM.ca (C_al_seg h0 he0 (by omega) hk) ?_
  iterate 5 refine ChM.pu ?_
  refine ChM.tl ?_
  apply Ex.nil
  apply X.seq
  apply X.sr
  iterate 2 refine Ex.pu ?_
  refine ExF.at 2 ?_
  refine ExF.pu ?_
  iterate 8 refine ExF.gi ?_
  refine ExF.done ?_
  refine Ex.pu ?_
  apply Ex.nil
  refine X.cd rfl (fun hc5 => ?_) (fun hc5 => ?_)
  ·omega
  apply X.skip
  apply X.seq
  refine X.drawQ [⟨0, 121, mnA m, []⟩, ⟨1, 122, intsA (perfL m), []⟩, ⟨2, 123, iv (k : Int), []⟩, ⟨3, 124, .ept intE kk 0, [2, 1]⟩, ⟨4, 125, iv kk, [2, 1, 3]⟩, ⟨5, 126, itsA (lvN m (perfL m) (rdI m l) k).2, []⟩, ⟨6, 127, .ptr 8 0 0 (0 + 2), []⟩, ⟨7, 128, intsA (rdV m l).Choices, [6]⟩, ⟨8, 129, iv ((lvN m (perfL m) (rdI m l) k).1.length : Int), []⟩, ⟨9, 130, iv ((lvN m (perfL m) (rdI m l) k).1.length : Int), []⟩, ⟨10, 131, smsA (segV m kk (lvN m (perfL m) (rdI m l) k).2), []⟩, ⟨11, 132, iv ((segV m kk (lvN m (perfL m) (rdI m l) k).2).length : Int), [10]⟩, ⟨12, 133, iv (((lvN m (perfL m) (rdI m l) k).1.length : Int) + ((segV m kk (lvN m (perfL m) (rdI m l) k).2).length : Int)), [10, 11, 9]⟩, ⟨13, 134, intsA (((rdV m l).Choices.drop (((lvN m (perfL m) (rdI m l) k).1.length : Int)).toNat).take (((((lvN m (perfL m) (rdI m l) k).1.length : Int) + ((segV m kk (lvN m (perfL m) (rdI m l) k).2).length : Int))).toNat - (((lvN m (perfL m) (rdI m l) k).1.length : Int)).toNat)), [10, 11, 9, 6, 12, 8, 7]⟩, ⟨15, 120, .tup [itsA (lvN m (perfL m) (rdI m l) (k + 1)).2, iv 0], [10, 11, 9, 6, 2, 1, 12, 8, 7, 3, 13, 5, 4, 0, 14]⟩, ⟨16, 136, itsA (lvN m (perfL m) (rdI m l) (k + 1)).2, [10, 11, 9, 6, 2, 1, 12, 8, 7, 3, 13, 5, 4, 0, 14, 15]⟩, ⟨17, 137, iv 0, [10, 11, 9, 6, 2, 1, 12, 8, 7, 3, 13, 5, 4, 0, 14, 15]⟩] [(14, [10, 11, 9, 6, 2, 1, 12, 8, 7, 3, 13, 5, 4, 0]), (18, [15, 13, 12, 11, 10, 9, 8, 7, 6, 5, 4, 3, 2, 1, 0, 14, 16]), (19, [16, 15, 14, 13, 12, 11, 10, 9, 8, 7, 6, 5, 4, 3, 2, 1, 0, 18, 17])] (fun j => match j with | 0 => ⟨[(5, .bool true), (6, .ptr 6 0 0 0), (7, sgsA l), (8, .ptr 8 0 0 0), (13, itsA (lvN m (perfL m) (rdI m l) k).2), (15, intsA (perfL m)), (17, iv ((lvN m (perfL m) (rdI m l) k).1.length : Int)), (18, iv (k : Int)), (19, smsA (segV m kk (lvN m (perfL m) (rdI m l) k).2))], [(6, .box (mnE m) 23), (8, .box (rdgE (rdV m l)) 41)]⟩ | 1 => ⟨[(5, .bool true), (6, .ptr 6 0 0 0), (7, sgsA l), (8, .ptr 8 0 0 0), (13, itsA (lvN m (perfL m) (rdI m l) k).2), (15, intsA (perfL m)), (17, iv ((lvN m (perfL m) (rdI m l) k).1.length : Int)), (18, iv (k : Int)), (19, smsA (segV m kk (lvN m (perfL m) (rdI m l) k).2)), (135, .tup [itsA (lvN m (perfL m) (rdI m l) (k + 1)).2, iv 0])], [(6, .box (mnE m) 23), (8, .box (rdgE (rdV m l)) 41)]⟩ | 2 => ⟨[(5, .bool true), (6, .ptr 6 0 0 0), (7, sgsA l), (8, .ptr 8 0 0 0), (13, itsA (lvN m (perfL m) (rdI m l) (k + 1)).2), (15, intsA (perfL m)), (17, iv ((lvN m (perfL m) (rdI m l) k).1.length : Int)), (18, iv (k : Int)), (19, smsA (segV m kk (lvN m (perfL m) (rdI m l) k).2)), (135, .tup [itsA (lvN m (perfL m) (rdI m l) (k + 1)).2, iv 0])], [(6, .box (mnE m) 23), (8, .box (rdgE (rdV m l)) 41)]⟩ | _ => ⟨[(5, .bool true), (6, .ptr 6 0 0 0), (7, sgsA l), (8, .ptr 8 0 0 0), (13, itsA (lvN m (perfL m) (rdI m l) (k + 1)).2), (15, intsA (perfL m)), (17, iv ((lvN m (perfL m) (rdI m l) k).1.length : Int)), (18, iv (k : Int)), (19, smsA (segV m kk (lvN m (perfL m) (rdI m l) k).2)), (135, .tup [itsA (lvN m (perfL m) (rdI m l) (k + 1)).2, iv 0]), (20, iv 0)], [(6, .box (mnE m) 23), (8, .box (rdgE (rdV m l)) 41)]⟩) mo (by kernel_rfl) (Imp.SP0 (Imp.au)) (fun j hj => ?_) (fun j c hc β hβ => ?_) ?_
  ·rcases j with _ | _ | _ | _ | j
   ·refine ⟨.inr ⟨_, rfl, rfl, rfl, rfl, Pur.stepA Pur.au⟩, ?_⟩
    refine ⟨.inr ⟨_, rfl, rfl, rfl, rfl, Pur.stepA Pur.au⟩, ?_⟩
    refine ⟨.inr ⟨_, rfl, rfl, rfl, rfl, Pur.stepA Pur.au⟩, ?_⟩
    refine ⟨.inr ⟨_, rfl, rfl, rfl, rfl, Pur.stepA (P_index_sl (enc := intE) (l := (perfL m)) (u := kk) rfl rfl SlK.h TyK.h (fun _ => rfl) (by omega) hk2)⟩, ?_⟩
    refine ⟨.inr ⟨_, rfl, rfl, rfl, rfl, Pur.stepA Pur.au⟩, ?_⟩
    refine ⟨.inr ⟨_, rfl, rfl, rfl, rfl, Pur.stepA Pur.au⟩, ?_⟩
    refine ⟨.inr ⟨_, rfl, rfl, rfl, rfl, Pur.stepA Pur.au⟩, ?_⟩
    refine ⟨.inr ⟨_, rfl, rfl, rfl, rfl, Pur.stepA Pur.au⟩, ?_⟩
    refine ⟨.inr ⟨_, rfl, rfl, rfl, rfl, Pur.stepA Pur.au⟩, ?_⟩
    refine ⟨.inr ⟨_, rfl, rfl, rfl, rfl, Pur.stepA Pur.au⟩, ?_⟩
    refine ⟨.inr ⟨_, rfl, rfl, rfl, rfl, Pur.stepA Pur.au⟩, ?_⟩
    refine ⟨.inr ⟨_, rfl, rfl, rfl, rfl, Pur.stepA Pur.au⟩, ?_⟩
    refine ⟨.inr ⟨_, rfl, rfl, rfl, rfl, Pur.stepA Pur.au⟩, ?_⟩
    refine ⟨.inr ⟨_, rfl, rfl, rfl, rfl, Pur.stepA (P_slice_slB rfl rfl rfl sl27 ty3 (fun _ => rfl) (by omega) (by omega) (by omega))⟩, ?_⟩
    refine ⟨.inl rfl, ?_⟩
    refine ⟨.inl rfl, ?_⟩
    refine ⟨.inl rfl, ?_⟩
    exact True.intro
   ·refine ⟨.inl rfl, ?_⟩
    refine ⟨.inl rfl, ?_⟩
    refine ⟨.inl rfl, ?_⟩
    refine ⟨.inl rfl, ?_⟩
    refine ⟨.inl rfl, ?_⟩
    refine ⟨.inl rfl, ?_⟩
    refine ⟨.inl rfl, ?_⟩
    refine ⟨.inl rfl, ?_⟩
    refine ⟨.inl rfl, ?_⟩
    refine ⟨.inl rfl, ?_⟩
    refine ⟨.inl rfl, ?_⟩
    refine ⟨.inl rfl, ?_⟩
    refine ⟨.inl rfl, ?_⟩
    refine ⟨.inl rfl, ?_⟩
    refine ⟨.inr ⟨_, rfl, rfl, rfl, rfl, Pur.stepA Pur.au⟩, ?_⟩
    refine ⟨.inr ⟨_, rfl, rfl, rfl, rfl, Pur.stepA Pur.au⟩, ?_⟩
    refine ⟨.inr ⟨_, rfl, rfl, rfl, rfl, Pur.stepA Pur.au⟩, ?_⟩
    exact True.intro
   ·refine ⟨.inl rfl, ?_⟩
    refine ⟨.inl rfl, ?_⟩
    refine ⟨.inl rfl, ?_⟩
    refine ⟨.inl rfl, ?_⟩
    refine ⟨.inl rfl, ?_⟩
    refine ⟨.inl rfl, ?_⟩
    refine ⟨.inl rfl, ?_⟩
    refine ⟨.inl rfl, ?_⟩
    refine ⟨.inl rfl, ?_⟩
    refine ⟨.inl rfl, ?_⟩
    refine ⟨.inl rfl, ?_⟩
    refine ⟨.inl rfl, ?_⟩
    refine ⟨.inl rfl, ?_⟩
    refine ⟨.inl rfl, ?_⟩
    refine ⟨.inl rfl, ?_⟩
    refine ⟨.inl rfl, ?_⟩
    refine ⟨.inr ⟨_, rfl, rfl, rfl, rfl, Pur.stepA Pur.au⟩, ?_⟩
    exact True.intro
   ·refine ⟨.inl rfl, ?_⟩
    refine ⟨.inl rfl, ?_⟩
    refine ⟨.inl rfl, ?_⟩
    refine ⟨.inl rfl, ?_⟩
    refine ⟨.inl rfl, ?_⟩
    refine ⟨.inl rfl, ?_⟩
    refine ⟨.inl rfl, ?_⟩
    refine ⟨.inl rfl, ?_⟩
    refine ⟨.inl rfl, ?_⟩
    refine ⟨.inl rfl, ?_⟩
    refine ⟨.inl rfl, ?_⟩
    refine ⟨.inl rfl, ?_⟩
    refine ⟨.inl rfl, ?_⟩
    refine ⟨.inl rfl, ?_⟩
    refine ⟨.inl rfl, ?_⟩
    refine ⟨.inl rfl, ?_⟩
    refine ⟨.inl rfl, ?_⟩
    exact True.intro
   ·exact absurd (show j + 4 <= 3 from hj) (by omega)
  ·rcases j with _ | _ | _ | j
   ·obtain rfl : (14, [10, 11, 9, 6, 2, 1, 12, 8, 7, 3, 13, 5, 4, 0]) = c := by injection hc
    refine Step1.mk rfl (StepM.pre (st0 := ⟨[(121, mnA m), (122, intsA (perfL m)), (123, iv (k : Int)), (124, .ept intE kk 0), (125, iv kk), (126, itsA (lvN m (perfL m) (rdI m l) k).2), (127, .ptr 8 0 0 (0 + 2)), (128, intsA (rdV m l).Choices), (129, iv ((lvN m (perfL m) (rdI m l) k).1.length : Int)), (130, iv ((lvN m (perfL m) (rdI m l) k).1.length : Int)), (131, smsA (segV m kk (lvN m (perfL m) (rdI m l) k).2)), (132, iv ((segV m kk (lvN m (perfL m) (rdI m l) k).2).length : Int)), (133, iv (((lvN m (perfL m) (rdI m l) k).1.length : Int) + ((segV m kk (lvN m (perfL m) (rdI m l) k).2).length : Int))), (134, intsA (((rdV m l).Choices.drop (((lvN m (perfL m) (rdI m l) k).1.length : Int)).toNat).take (((((lvN m (perfL m) (rdI m l) k).1.length : Int) + ((segV m kk (lvN m (perfL m) (rdI m l) k).2).length : Int))).toNat - (((lvN m (perfL m) (rdI m l) k).1.length : Int)).toNat))), (120, .ifb (β 15) (.tup [itsA (lvN m (perfL m) (rdI m l) (k + 1)).2, iv 0])), (136, .ifb (β 16) (itsA (lvN m (perfL m) (rdI m l) (k + 1)).2)), (137, .ifb (β 17) (iv 0)), (5, .bool true), (6, .ptr 6 0 0 0), (7, sgsA l), (8, .ptr 8 0 0 0), (13, itsA (lvN m (perfL m) (rdI m l) k).2), (15, intsA (perfL m)), (17, iv ((lvN m (perfL m) (rdI m l) k).1.length : Int)), (18, iv (k : Int)), (19, smsA (segV m kk (lvN m (perfL m) (rdI m l) k).2))], [(6, .box (mnE m) 23), (8, .box (rdgE (rdV m l)) 41)]⟩) (Imp.ib) ?_)
    refine StepM.imp (StepA.toM (A_call rfl rfl rfl (LeL.refl _) (C_al_app h0 he0 (by omega) hk (by omega) (by omega))) rfl rfl) (Imp.ib)
   ·obtain rfl : (18, [15, 13, 12, 11, 10, 9, 8, 7, 6, 5, 4, 3, 2, 1, 0, 14, 16]) = c := by injection hc
    refine Step1.mk rfl (StepM.pre (st0 := ⟨[(121, mnA m), (122, intsA (perfL m)), (123, iv (k : Int)), (124, .ept intE kk 0), (125, iv kk), (126, itsA (lvN m (perfL m) (rdI m l) k).2), (127, .ptr 8 0 0 (0 + 2)), (128, intsA (rdV m l).Choices), (129, iv ((lvN m (perfL m) (rdI m l) k).1.length : Int)), (130, iv ((lvN m (perfL m) (rdI m l) k).1.length : Int)), (131, smsA (segV m kk (lvN m (perfL m) (rdI m l) k).2)), (132, iv ((segV m kk (lvN m (perfL m) (rdI m l) k).2).length : Int)), (133, iv (((lvN m (perfL m) (rdI m l) k).1.length : Int) + ((segV m kk (lvN m (perfL m) (rdI m l) k).2).length : Int))), (134, intsA (((rdV m l).Choices.drop (((lvN m (perfL m) (rdI m l) k).1.length : Int)).toNat).take (((((lvN m (perfL m) (rdI m l) k).1.length : Int) + ((segV m kk (lvN m (perfL m) (rdI m l) k).2).length : Int))).toNat - (((lvN m (perfL m) (rdI m l) k).1.length : Int)).toNat))), (120, .tup [itsA (lvN m (perfL m) (rdI m l) (k + 1)).2, iv 0]), (136, itsA (lvN m (perfL m) (rdI m l) (k + 1)).2), (137, .ifb (β 17) (iv 0)), (5, .bool true), (6, .ptr 6 0 0 0), (7, sgsA l), (8, .ptr 8 0 0 0), (13, itsA (lvN m (perfL m) (rdI m l) k).2), (15, intsA (perfL m)), (17, iv ((lvN m (perfL m) (rdI m l) k).1.length : Int)), (18, iv (k : Int)), (19, smsA (segV m kk (lvN m (perfL m) (rdI m l) k).2)), (135, .tup [itsA (lvN m (perfL m) (rdI m l) (k + 1)).2, iv 0])], [(6, .box (mnE m) 23), (8, .box (rdgE (rdV m l)) 41)]⟩) (Imp.ib) ?_)
    refine StepM.imp (StepA.toM (Pur.stepA Pur.au) rfl rfl) (Imp.ib)
   ·obtain rfl : (19, [16, 15, 14, 13, 12, 11, 10, 9, 8, 7, 6, 5, 4, 3, 2, 1, 0, 18, 17]) = c := by injection hc
    refine Step1.mk rfl (StepM.pre (st0 := ⟨[(121, mnA m), (122, intsA (perfL m)), (123, iv (k : Int)), (124, .ept intE kk 0), (125, iv kk), (126, itsA (lvN m (perfL m) (rdI m l) k).2), (127, .ptr 8 0 0 (0 + 2)), (128, intsA (rdV m l).Choices), (129, iv ((lvN m (perfL m) (rdI m l) k).1.length : Int)), (130, iv ((lvN m (perfL m) (rdI m l) k).1.length : Int)), (131, smsA (segV m kk (lvN m (perfL m) (rdI m l) k).2)), (132, iv ((segV m kk (lvN m (perfL m) (rdI m l) k).2).length : Int)), (133, iv (((lvN m (perfL m) (rdI m l) k).1.length : Int) + ((segV m kk (lvN m (perfL m) (rdI m l) k).2).length : Int))), (134, intsA (((rdV m l).Choices.drop (((lvN m (perfL m) (rdI m l) k).1.length : Int)).toNat).take (((((lvN m (perfL m) (rdI m l) k).1.length : Int) + ((segV m kk (lvN m (perfL m) (rdI m l) k).2).length : Int))).toNat - (((lvN m (perfL m) (rdI m l) k).1.length : Int)).toNat))), (120, .tup [itsA (lvN m (perfL m) (rdI m l) (k + 1)).2, iv 0]), (136, itsA (lvN m (perfL m) (rdI m l) (k + 1)).2), (137, iv 0), (5, .bool true), (6, .ptr 6 0 0 0), (7, sgsA l), (8, .ptr 8 0 0 0), (13, itsA (lvN m (perfL m) (rdI m l) (k + 1)).2), (15, intsA (perfL m)), (17, iv ((lvN m (perfL m) (rdI m l) k).1.length : Int)), (18, iv (k : Int)), (19, smsA (segV m kk (lvN m (perfL m) (rdI m l) k).2)), (135, .tup [itsA (lvN m (perfL m) (rdI m l) (k + 1)).2, iv 0])], [(6, .box (mnE m) 23), (8, .box (rdgE (rdV m l)) 41)]⟩) (Imp.ib) ?_)
    refine StepM.imp (StepA.toM (Pur.stepA Pur.au) rfl rfl) (Imp.ib)
   ·exact absurd hc (by simp)
  apply X.seq
  apply X.sr
  iterate 2 refine Ex.pu ?_
  apply Ex.nil
  refine X.cd rfl (fun hc6 => ?_) (fun hc6 => ?_)
  ·(first | (simp at hc6; done) | omega)
  apply X.skip
  apply X.region
  iterate 5 refine Ex.pu ?_
  apply Ex.nil
  apply X.region
  iterate 3 refine Ex.pu ?_
  apply Ex.nil
  refine X.bk (k + 1) (hI := Imp.ax)
 ·obtain rfl : k = (perfL m).length := by omega
  apply X.exit
  apply X.seq
  apply X.sr
  iterate 5 refine Ex.pu ?_
  refine ExF.at 5 ?_
  refine ExF.pu ?_
  iterate 6 refine ExF.gi ?_
  refine ExF.done ?_
  refine Ex.pu ?_
  apply Ex.nil
  refine X.cd rfl (fun hc7 => ?_) (fun hc7 => ?_)
  ·omega
  apply X.skip
  apply X.seq
  apply X.sr
  refine Ex.pu ?_
  apply Ex.nil
  apply X.block
  refine X.lp (ι := Nat) (fun (j : Nat) => [(5, .bool true), (8, .ptr 8 0 0 0), (13, itsA (lvN m (perfL m) (rdI m l) (perfL m).length).2), (21, iv (j : Int))]) (fun (j : Nat) => [(8, .box (rdgE (rdV m l)) 41)]) (fun (j : Nat) => j <= (lvN m (perfL m) (rdI m l) (perfL m).length).2.length) (fun (j : Nat) => (lvN m (perfL m) (rdI m l) (perfL m).length).2.length - j) 0 (fun j hk => ?_)
  apply X.seq
  apply X.sr
  iterate 4 refine Ex.pu ?_
  apply Ex.nil
  refine X.cd rfl (fun hc8 => ?_) (fun hc8 => ?_)
  ·obtain ⟨x, hx⟩ : ∃ x, (lvN m (perfL m) (rdI m l) (perfL m).length).2[j]? = some x := ⟨_, List.getElem?_eq_getElem (by omega)⟩
   have hx2 : (lvN m (perfL m) (rdI m l) (perfL m).length).2[(j : Int).toNat]? = some x := by simpa using hx
   have hy := n3 j x hx
   have hy2 : (rdV m l).Durs[(j : Int).toNat]? = some x.Dur := by simpa using hy
   apply X.skip
   apply X.seq
   apply X.block
   apply X.seq
   refine X.dw [163,164,165,166,167,168,169,170,171,172,173] [0,0,3,7,15,0,32,0,224,480,1023] mo ?_
   iterate 11 refine ChM.pu ?_
   refine ChM.tl ?_
   apply Ex.nil
   refine X.cd rfl (fun hc9 => ?_) (fun hc9 => ?_)
   ·exact (hc9 rfl).elim
   apply X.skip
   apply X.region
   iterate 3 refine Ex.pu ?_
   apply Ex.nil
   refine X.bk (j + 1)
  ·apply X.exit
   apply X.sr
   iterate 2 refine Ex.pu ?_
   apply Ex.nil
   refine X.ret ?_
   refine RetQ.ret (.one (.tmp rfl (LeV.eq ?_)))
   all_goals (first | rfl | (simp; omega))
end Go.Rse
