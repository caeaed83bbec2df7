/-
  Walks: durations of a spelling; all durations.
-/
import Derived.Test.YteecbmgddacioaaGreatSrt
namespace Go.Rse
open Go Go.Proofs
set_option linter.unusedVariables false
set_option linter.unusedSimpArgs false
attribute [local irreducible] Pur StepA StepM Ex X ExG Fn Imp LeV LeB FnO It YStep
def wayF : Nat → FuncId
  | 1 => 41
  | 2 => 42
  | 3 => 45
  | 4 => 46
  | 5 => 47
  | 6 => 49
  | 7 => 50
  | _ => 51
def wayP (w : Int) : List AV := [.bool (decide (w = 8)), .bool (decide (w = 5) || decide (w = 6) || decide (w = 7)), .bool (decide (w = 2) || decide (w = 6)), .fn (wayF w.toNat) []]
theorem wayP_at (w : Int) (h1 : 1 ≤ w) (h8 : w ≤ 8) : (waysA.drop (w.toNat * 4)).take 4 = wayP w := by
  have : w = 1 ∨ w = 2 ∨ w = 3 ∨ w = 4 ∨ w = 5 ∨ w = 6 ∨ w = 7 ∨ w = 8 := by omega
  rcases this with rfl | rfl | rfl | rfl | rfl | rfl | rfl | rfl <;> rfl
theorem wayF_O (m : Mn) (v w : Int) (hm : ckM m = 0) (h1 : 1 ≤ v) (h8 : v ≤ 8) (w1 : 1 ≤ w) (w8 : w ≤ 8) : FnO Tryz.prog (wayF w.toNat) [mnA m, iv v] [] [] (.own 9) [(9, .row tmE (wdL m v w.toNat) 51 2)] := by
  have : w = 1 ∨ w = 2 ∨ w = 3 ∨ w = 4 ∨ w = 5 ∨ w = 6 ∨ w = 7 ∨ w = 8 := by omega
  rcases this with rfl | rfl | rfl | rfl | rfl | rfl | rfl | rfl
  · exact FnO.renOwn 9 (C_spell_ways_1O m v hm h1 h8) rfl
  · exact FnO.renOwn 9 (C_spell_ways_2O m v hm h1 h8) rfl
  · exact FnO.renOwn 9 (C_spell_lostO m v hm h1 h8) rfl
  · exact FnO.renOwn 9 (C_spell_ways_3O m v hm h1 h8) rfl
  · exact FnO.renOwn 9 (C_spell_ways_4O m v hm h1 h8) rfl
  · exact FnO.renOwn 9 (C_spell_ways_5O m v hm h1 h8) rfl
  · exact FnO.renOwn 9 (C_spell_ways_6O m v hm h1 h8) rfl
  · exact FnO.renOwn 9 (C_spell_ways_7O m v hm h1 h8) rfl
def chS (s : Sp) : Int := if 1 ≤ s.Value ∧ s.Value ≤ 8 then (if (1 ≤ s.Way ∧ s.Way ≤ 8) ∧ s = spOf s.Value s.Way then 0 else 8) else 2
theorem spOf_iff (s : Sp) : s = spOf s.Value s.Way ↔ s.Rest = decide (s.Way = 8) ∧ s.Color = (decide (s.Way = 5) || decide (s.Way = 6) || decide (s.Way = 7)) ∧ s.Dot = (decide (s.Way = 2) || decide (s.Way = 6)) := by
  cases s; simp [spOf]
theorem chS_0 {s : Sp} (h : chS s = 0) : 1 ≤ s.Value ∧ s.Value ≤ 8 ∧ 1 ≤ s.Way ∧ s.Way ≤ 8 ∧ s.Rest = decide (s.Way = 8) ∧ s.Color = (decide (s.Way = 5) || decide (s.Way = 6) || decide (s.Way = 7)) ∧ s.Dot = (decide (s.Way = 2) || decide (s.Way = 6)) := by
  unfold chS at h
  split at h
  · split at h
    · rename_i h1 h2; rw [spOf_iff] at h2; exact ⟨h1.1, h1.2, h2.1.1, h2.1.2, h2.2⟩
    · simp at h
  · simp at h
def wOk (m : Mn) (v : Int) : Bool := (List.range 9).all fun n => (wdL m v n).all fun t => decide (ckT t = 0)
theorem wOk_all : ckAll wOk = true := by kernel_rfl
theorem wdL_ck {m : Mn} {v : Int} (hm : ckM m = 0) (h1 : 1 ≤ v) (h8 : v ≤ 8) (n : Nat) (hn : n ≤ 8) : ∀ t ∈ wdL m v n, ckT t = 0 := fun t ht => by
  have h := ckAll_use wOk_all hm h1 h8
  unfold wOk at h
  have h2 := List.all_eq_true.1 (List.all_eq_true.1 h n (List.mem_range.2 (by omega))) t ht
  exact of_decide_eq_true h2
def durE (m : Mn) (s : Sp) : Int := if ckM m = 0 then chS s else ckM m
def durV (m : Mn) (s : Sp) : List Tm := if durE m s = 0 then srtT (wdL m s.Value s.Way.toNat) else []
/-- All durations. -/
def tiI (m : Mn) (v : Int) : Nat → List Tm
  | 0 => []
  | n + 1 => tiI m v n ++ wdL m v n
def tiO (m : Mn) : Nat → List Tm
  | 0 => []
  | k + 1 => tiO m k ++ tiI m (1 + (k : Int)) 9
theorem tiI_len (m : Mn) {v : Int} (h1 : 1 ≤ v) : ∀ n, (tiI m v n).length ≤ n * 81
  | 0 => Nat.le_refl _
  | n + 1 => by
    have := tiI_len m h1 n
    have := wdL_len m h1 n
    unfold tiI; rw [List.length_append]; omega
theorem tiO_len (m : Mn) : ∀ k, (tiO m k).length ≤ k * 729
  | 0 => Nat.le_refl _
  | k + 1 => by
    have := tiO_len m k
    have := tiI_len m (show 1 ≤ 1 + (k : Int) by omega) 9
    unfold tiO; rw [List.length_append]; omega
theorem tiI_ck {m : Mn} {v : Int} (hm : ckM m = 0) (h1 : 1 ≤ v) (h8 : v ≤ 8) : ∀ n, n ≤ 9 → ∀ t ∈ tiI m v n, ckT t = 0
  | 0, _, t, ht => by simp [tiI] at ht
  | n + 1, hn, t, ht => by
    unfold tiI at ht
    rcases List.mem_append.1 ht with h | h
    · exact tiI_ck hm h1 h8 n (by omega) t h
    · exact wdL_ck hm h1 h8 n (by omega) t h
theorem tiO_ck {m : Mn} (hm : ckM m = 0) : ∀ k, k ≤ 8 → ∀ t ∈ tiO m k, ckT t = 0
  | 0, _, t, ht => by simp [tiO] at ht
  | k + 1, hk, t, ht => by
    unfold tiO at ht
    rcases List.mem_append.1 ht with h | h
    · exact tiO_ck hm k (by omega) t h
    · exact tiI_ck hm (by omega) (by omega) 9 (Nat.le_refl _) t h
def timV (m : Mn) : List Tm := if ckM m = 0 then srtT (tiO m 8) else []
theorem tiI_st (m : Mn) (v : Int) (n : Nat) (X : List Tm) : X ++ tiI m v n ++ wdL m v n = X ++ tiI m v (n + 1) := by
  conv => rhs; unfold tiI
  rw [List.append_assoc]
theorem tiI_st0 (m : Mn) (v : Int) (X : List Tm) : X ++ tiI m v 0 = X ++ tiI m v 1 := by
  conv => rhs; unfold tiI
  simp [wdL]
attribute [local irreducible] fullT durT mulV wdL srtT msT cpT tiI tiO
theorem C_spell_valued (v : Int) : Fn Tryz.prog 24 [iv v] (.bool (decide (1 ≤ v ∧ v ≤ 8))) := by
  refine Fn.go Tryz.func24 Tryz.ntmps24 (fun g w d => ?_)
  refine X.seq ?_
  refine X.region ?_
  refine Ex.pu ?_
  refine Ex.nil ?_
  refine X.seq ?_
  refine X.region ?_
  iterate 2 refine Ex.pu ?_
  refine ExF.at 2 ?_
  refine ExF.pu ?_
  iterate 2 refine ExF.gi ?_
  refine ExF.done ?_
  iterate 2 refine Ex.pu ?_
  refine Ex.nil ?_
  refine X.ret ?_
  refine RetQ.ret (.one (.tmp rfl (LeV.eq ?_)))
  all_goals (first | rfl | (simp_all; done))
theorem C_spell_checkY (s : Sp) (c : chS s = 0) : Fn Tryz.prog 12 [spA s] (.tup [.agg (wayP s.Way), iv 0]) := by
  obtain ⟨hV1, hV8, hW1, hW8, hR, hC, hD⟩ := chS_0 c
  have hpart := wayP_at s.Way hW1 hW8
  refine Fn.go Tryz.func12 Tryz.ntmps12 (fun g w d => ?_)
  refine X.seq ?_
  refine X.region ?_
  refine Ex.ba ?_
  refine Ex.al ?_
  refine Ex.pu ?_
  refine Ex.nil ?_
  refine X.seq ?_
  refine X.seq ?_
  refine X.region ?_
  iterate 2 refine Ex.pu ?_
  refine Ex.ca (C_spell_valued s.Value) ?_
  refine Ex.pu ?_
  refine Ex.nil ?_
  refine X.cd rfl (fun hc1 => ?_) (fun hc1 => ?_)
  · omega
  refine X.skip ?_
  refine X.seq ?_
  refine X.seq ?_
  refine X.region ?_
  iterate 3 refine Ex.pu ?_
  refine ExF.at 3 ?_
  refine ExF.pu ?_
  iterate 3 refine ExF.gi ?_
  refine ExF.done ?_
  refine Ex.pu ?_
  refine Ex.nil ?_
  refine X.cd rfl (fun hc2 => ?_) (fun hc2 => ?_)
  · omega
  refine X.skip ?_
  refine X.seq ?_
  refine X.dw [4,19,20,21,22] [0,0,2,7,0,31] mo ?_
  refine ChM.ca C_spell_ways ?_
  iterate 2 refine ChM.pu ?_
  refine ChM.step rfl rfl rfl (Pur.stepA (P_index_part ArK.h TyK.h rfl rfl (by omega) (by omega) hpart)) rfl ?_
  refine ChM.step rfl rfl rfl (A_alloc (k := 4) zc40) rfl ?_
  refine ChM.tl ?_
  refine Ex.mo ?_
  refine Ex.nil ?_
  refine X.seq ?_
  refine X.seq ?_
  refine X.region ?_
  iterate 5 refine Ex.pu ?_
  refine ExF.at 5 ?_
  refine ExF.pu ?_
  iterate 5 refine ExF.gi ?_
  iterate 2 refine ExF.pu ?_
  iterate 5 refine ExF.gi ?_
  refine ExF.done ?_
  refine Ex.pu ?_
  refine Ex.nil ?_
  refine X.cd rfl (fun hc3 => ?_) (fun hc3 => ?_)
  · simp [hR, hC, hD] at hc3
  refine X.skip ?_
  refine X.seq ?_
  refine X.region ?_
  refine Ex.pu ?_
  refine Ex.mo ?_
  refine Ex.pu ?_
  refine Ex.nil ?_
  refine X.ret ?_
  refine RetQ.ret (.many (by decide) (.cons (.cellA rfl rfl rfl rfl ty40 (LeV.eq ?_)) (.cons (.tmp rfl (LeV.eq ?_)) .nil)))
  all_goals (first | rfl | (simp_all; done))
theorem C_spell_checkN (s : Sp) (c : ¬ chS s = 0) : Fn Tryz.prog 12 [spA s] (.tup [.agg [.bool false, .bool false, .bool false, .nilf], iv (chS s)]) := by
  refine Fn.go Tryz.func12 Tryz.ntmps12 (fun g w d => ?_)
  refine X.seq ?_
  refine X.region ?_
  refine Ex.ba ?_
  refine Ex.al ?_
  refine Ex.pu ?_
  refine Ex.nil ?_
  refine X.seq ?_
  refine X.seq ?_
  refine X.region ?_
  iterate 2 refine Ex.pu ?_
  refine Ex.ca (C_spell_valued s.Value) ?_
  refine Ex.pu ?_
  refine Ex.nil ?_
  refine X.cd rfl (fun hc1 => ?_) (fun hc1 => ?_)
  · have hE : 2 = chS s := by unfold chS; rw [if_neg (by omega)]
    refine X.seq ?_
    refine X.region ?_
    refine Ex.pu ?_
    refine Ex.mo ?_
    refine Ex.pu ?_
    refine Ex.nil ?_
    refine X.ret ?_
    refine RetQ.ret (.many (by decide) (.cons (.cellA rfl rfl rfl rfl ty40 (LeV.eq ?_)) (.cons (.tmp rfl (LeV.eq ?_)) .nil)))
    all_goals (first | rfl | (simp_all; done))
  refine X.skip ?_
  refine X.seq ?_
  refine X.seq ?_
  refine X.region ?_
  iterate 3 refine Ex.pu ?_
  refine ExF.at 3 ?_
  refine ExF.pu ?_
  iterate 3 refine ExF.gi ?_
  refine ExF.done ?_
  refine Ex.pu ?_
  refine Ex.nil ?_
  refine X.cd rfl (fun hc2 => ?_) (fun hc2 => ?_)
  · have hE : 8 = chS s := by unfold chS; rw [if_pos (by omega), if_neg (fun h => by omega)]
    refine X.seq ?_
    refine X.region ?_
    refine Ex.pu ?_
    refine Ex.mo ?_
    refine Ex.pu ?_
    refine Ex.nil ?_
    refine X.ret ?_
    refine RetQ.ret (.many (by decide) (.cons (.cellA rfl rfl rfl rfl ty40 (LeV.eq ?_)) (.cons (.tmp rfl (LeV.eq ?_)) .nil)))
    all_goals (first | rfl | (simp_all; done))
  have hpart := wayP_at s.Way (by omega) (by omega)
  refine X.skip ?_
  refine X.seq ?_
  refine X.dw [4,19,20,21,22] [0,0,2,7,0,31] mo ?_
  refine ChM.ca C_spell_ways ?_
  iterate 2 refine ChM.pu ?_
  refine ChM.step rfl rfl rfl (Pur.stepA (P_index_part ArK.h TyK.h rfl rfl (by omega) (by omega) hpart)) rfl ?_
  refine ChM.step rfl rfl rfl (A_alloc (k := 4) zc40) rfl ?_
  refine ChM.tl ?_
  refine Ex.mo ?_
  refine Ex.nil ?_
  refine X.seq ?_
  refine X.seq ?_
  refine X.region ?_
  iterate 5 refine Ex.pu ?_
  refine ExF.at 5 ?_
  refine ExF.pu ?_
  iterate 5 refine ExF.gi ?_
  iterate 2 refine ExF.pu ?_
  iterate 5 refine ExF.gi ?_
  refine ExF.done ?_
  refine Ex.pu ?_
  refine Ex.nil ?_
  refine X.cd rfl (fun hc3 => ?_) (fun hc3 => ?_)
  · have hE : 8 = chS s := by
      unfold chS
      rw [if_pos (by omega), if_neg (fun h => ?_)]
      have h2 := (spOf_iff s).1 h.2
      simp [h2] at hc3
    refine X.seq ?_
    refine X.region ?_
    refine Ex.pu ?_
    refine Ex.mo ?_
    refine Ex.pu ?_
    refine Ex.nil ?_
    refine X.ret ?_
    refine RetQ.ret (.many (by decide) (.cons (.cellA rfl rfl rfl rfl ty40 (LeV.eq ?_)) (.cons (.tmp rfl (LeV.eq ?_)) .nil)))
    all_goals (first | rfl | (simp_all; done))
  exact absurd (by unfold chS; rw [if_pos (by omega), if_pos ⟨by omega, (spOf_iff s).2 (by simpa [and_assoc] using hc3)⟩]) c
theorem C_spell_sorted (l : List Tm) (hl : l.length ≤ 4000000000) (hok : ∀ t ∈ l, ckT t = 0) : FnO Tryz.prog 13 [.own 2000000] [(2000000, .row tmE l 51 2)] [] (.own 6) [(6, .row tmE (srtT l) 51 2)] := by
  refine FnO.intro (ts := [(0, .own 2000000)]) (rv := [.tmp 2]) (n := 7) (cs := []) (by kernel_rfl) Tryz.func13 rfl Tryz.ntmps13 rfl rfl (by simp) rfl rfl rfl rfl (fun g w d vs => ?_)
  refine X.seq ?_
  refine X.region ?_
  refine Ex.pu ?_
  refine Ex.nil ?_
  refine X.seq ?_
  refine X.region ?_
  refine Ex.pu ?_
  refine Ex.co [(2000000, 2000000)] (C_sortTime l hl hok) ?_
  refine Ex.nil ?_
  refine X.seq ?_
  refine X.region ?_
  refine Ex.pu ?_
  refine Ex.co [(2000000, 2000000), (2000002, 6)] (FnO.renOwn 2000002 (C_slices_CompactFunc_api_Time_api_Time (msT l) (by rw [msT_len]; exact hl)) rfl) ?_
  refine Ex.pu ?_
  refine Ex.nil ?_
  refine X.ret ?_
  have hfin : cpT (msT l) = srtT l := by unfold srtT; rfl
  refine RetQO.mk (ts := [(2, .own 6)]) (.inr rfl) (Imp.au) (.one (.tmp rfl (LeV.eq rfl)))
theorem C_spell_DurationsY (m : Mn) (s : Sp) (c : chS s = 0) : Fn Tryz.prog 4 [mnA m, spA s] (.tup [tmsA (durV m s), iv (durE m s)]) := by
  obtain ⟨hV1, hV8, hW1, hW8, hR, hC, hD⟩ := chS_0 c
  refine Fn.go Tryz.func4 Tryz.ntmps4 (fun g w d => ?_)
  refine X.seq ?_
  refine X.region ?_
  refine Ex.ba ?_
  refine Ex.ba ?_
  iterate 2 refine Ex.pu ?_
  refine Ex.nil ?_
  refine X.seq ?_
  refine X.seq ?_
  refine X.region ?_
  refine Ex.pu ?_
  refine Ex.ca (C_mens_Check m) ?_
  refine Ex.pu ?_
  refine Ex.nil ?_
  refine X.seq ?_
  refine X.region ?_
  iterate 2 refine Ex.pu ?_
  refine Ex.nil ?_
  refine X.cd rfl (fun hc1 => ?_) (fun hc1 => ?_)
  · have hE : ckM m = durE m s := by unfold durE; rw [if_neg hc1]
    have hV : [] = durV m s := by unfold durV; rw [if_neg (by omega)]
    refine X.seq ?_
    refine X.region ?_
    iterate 3 refine Ex.pu ?_
    refine Ex.nil ?_
    refine X.ret ?_
    refine RetQ.imp (Imp.au (ts := [(4, tmsA []), (5, iv (ckM m))]) (hs := [])) ?_
    refine RetQ.ret (.many (by decide) (.cons (.tmp rfl (LeV.eq ?_)) (.cons (.tmp rfl (LeV.eq ?_)) .nil)))
    all_goals (first | exact congrArg tmsA hV | exact congrArg (AV.int .i64) hE)
  have HM : ckM m = 0 := hc1
  have hE : 0 = durE m s := by unfold durE; rw [if_pos hc1, c]
  have hV : srtT (wdL m s.Value s.Way.toNat) = durV m s := by unfold durV; rw [if_pos hE.symm]
  refine X.skip ?_
  refine X.seq ?_
  refine X.region ?_
  refine Ex.pu ?_
  refine Ex.ca (C_spell_checkY s c) ?_
  iterate 3 refine Ex.pu ?_
  refine Ex.al ?_
  refine Ex.mo ?_
  refine Ex.pu ?_
  refine Ex.nil ?_
  refine X.seq ?_
  refine X.seq ?_
  refine X.region ?_
  iterate 2 refine Ex.pu ?_
  refine Ex.nil ?_
  refine X.cd rfl (fun hc2 => ?_) (fun hc2 => ?_)
  · exact absurd rfl hc2
  refine X.skip ?_
  refine X.seq ?_
  refine X.region ?_
  iterate 5 refine Ex.pu ?_
  refine Ex.co [(9, 27)] (wayF_O m s.Value s.Way HM hV1 hV8 hW1 hW8) ?_
  refine Ex.co [(2000000, 27), (6, 28)] (C_spell_sorted (wdL m s.Value s.Way.toNat) (by have := wdL_len m hV1 s.Way.toNat; omega) (wdL_ck HM hV1 hV8 s.Way.toNat (by omega))) ?_
  iterate 2 refine Ex.pu ?_
  refine Ex.nil ?_
  refine X.ret ?_
  refine RetQ.imp (Imp.freeze (k := 28) rfl) ?_
  refine RetQ.ret (.many (by decide) (.cons (.tmp rfl (LeV.eq ?_)) (.cons (.tmp rfl (LeV.eq ?_)) .nil)))
  all_goals (first | exact congrArg tmsA hV | exact congrArg (AV.int .i64) hE)
theorem C_spell_DurationsN (m : Mn) (s : Sp) (c : ¬ chS s = 0) : Fn Tryz.prog 4 [mnA m, spA s] (.tup [tmsA (durV m s), iv (durE m s)]) := by
  refine Fn.go Tryz.func4 Tryz.ntmps4 (fun g w d => ?_)
  refine X.seq ?_
  refine X.region ?_
  refine Ex.ba ?_
  refine Ex.ba ?_
  iterate 2 refine Ex.pu ?_
  refine Ex.nil ?_
  refine X.seq ?_
  refine X.seq ?_
  refine X.region ?_
  refine Ex.pu ?_
  refine Ex.ca (C_mens_Check m) ?_
  refine Ex.pu ?_
  refine Ex.nil ?_
  refine X.seq ?_
  refine X.region ?_
  iterate 2 refine Ex.pu ?_
  refine Ex.nil ?_
  refine X.cd rfl (fun hc1 => ?_) (fun hc1 => ?_)
  · have hE : ckM m = durE m s := by unfold durE; rw [if_neg hc1]
    have hV : [] = durV m s := by unfold durV; rw [if_neg (by omega)]
    refine X.seq ?_
    refine X.region ?_
    iterate 3 refine Ex.pu ?_
    refine Ex.nil ?_
    refine X.ret ?_
    refine RetQ.imp (Imp.au (ts := [(4, tmsA []), (5, iv (ckM m))]) (hs := [])) ?_
    refine RetQ.ret (.many (by decide) (.cons (.tmp rfl (LeV.eq ?_)) (.cons (.tmp rfl (LeV.eq ?_)) .nil)))
    all_goals (first | exact congrArg tmsA hV | exact congrArg (AV.int .i64) hE)
  have hE : chS s = durE m s := by unfold durE; rw [if_pos hc1]
  have hV : [] = durV m s := by unfold durV; rw [if_neg (by omega)]
  refine X.skip ?_
  refine X.seq ?_
  refine X.region ?_
  refine Ex.pu ?_
  refine Ex.ca (C_spell_checkN s c) ?_
  iterate 3 refine Ex.pu ?_
  refine Ex.al ?_
  refine Ex.mo ?_
  refine Ex.pu ?_
  refine Ex.nil ?_
  refine X.seq ?_
  refine X.seq ?_
  refine X.region ?_
  iterate 2 refine Ex.pu ?_
  refine Ex.nil ?_
  refine X.cd rfl (fun hc2 => ?_) (fun hc2 => ?_)
  · refine X.seq ?_
    refine X.region ?_
    iterate 3 refine Ex.pu ?_
    refine Ex.nil ?_
    refine X.ret ?_
    refine RetQ.imp (Imp.au (ts := [(4, tmsA []), (5, iv (chS s))]) (hs := [])) ?_
    refine RetQ.ret (.many (by decide) (.cons (.tmp rfl (LeV.eq ?_)) (.cons (.tmp rfl (LeV.eq ?_)) .nil)))
    all_goals (first | exact congrArg tmsA hV | exact congrArg (AV.int .i64) hE)
  exact absurd hc2 c
theorem C_spell_Durations (m : Mn) (s : Sp) : Fn Tryz.prog 4 [mnA m, spA s] (.tup [tmsA (durV m s), iv (durE m s)]) := by
  by_cases c : chS s = 0
  · exact C_spell_DurationsY m s c
  · exact C_spell_DurationsN m s c
end Go.Rse
