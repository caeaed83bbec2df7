/-
  Walks: the reference for spellings: durations of a spelling.
-/
import Derived.Test.YteecbmgddacioaaGreatRef22b
import Derived.Test.YteecbmgddacioaaGreatSpR
namespace Go.Rse
open Go Go.Proofs
set_option linter.unusedVariables false
set_option linter.unusedSimpArgs false
attribute [local irreducible] Pur StepA StepM Ex X ExG Fn Imp LeV LeB FnO It YStep
/-- The durations of a way, ascending, each once. -/
def mdL (m : Mn) (v y : Int) : List Tm :=
  if y = 1 ∨ y = 8 then [fullT m v]
  else if y = 2 then (if m.p v = 2 then [tmkT ((fullT m v).N * 3) ((fullT m v).D * 2)] else [])
  else if y = 3 then (rlL m v (5 - v).toNat v (fullT m v)).filter fun x => !decide (x = fullT m v)
  else if y = 4 then (if (2 ≤ v ∧ v ≤ 5) ∧ m.p (v - 1) = 3 then [tmkT ((fullT m v).N * 2) ((fullT m v).D * 1)] else [])
  else if y = 5 then [durT m v]
  else if y = 6 then [tmkT ((durT m v).N * 3) ((durT m v).D * 2)]
  else if y = 7 then (if m.p 4 = 2 ∧ v = 4 then [⟨3, 2⟩] else if m.p 4 = 2 ∧ v = 5 then [⟨1, 2⟩] else [])
  else []
def duB (m : Mn) (v : Int) : Bool := decide (0 ≤ (durT m v).N) && decide ((durT m v).N ≤ 1000) && decide (0 ≤ (durT m v).D) && decide ((durT m v).D ≤ 1000)
theorem duB_all : ckAll duB = true := by kernel_rfl
theorem du_of {m : Mn} {v : Int} (hm : ckM m = 0) (h1 : 1 ≤ v) (h8 : v ≤ 8) : 0 ≤ (durT m v).N ∧ (durT m v).N ≤ 1000 ∧ 0 ≤ (durT m v).D ∧ (durT m v).D ≤ 1000 := by
  have h := ckAll_use duB_all hm h1 h8
  unfold duB at h
  simp only [Bool.and_eq_true, decide_eq_true_eq] at h
  exact ⟨h.1.1.1, h.1.1.2, h.1.2, h.2⟩
theorem fil_step {L : List Tm} {F u : Tm} {k : Nat} (h : L[k]? = some u) : (L.take (k + 1)).filter (fun x => !decide (x = F)) = (L.take k).filter (fun x => !decide (x = F)) ++ (if u = F then [] else [u]) := by
  rw [List.take_add_one, h, List.filter_append]
  by_cases e : u = F <;> simp [e]
attribute [local irreducible] cmpV subV fullT insT rlN rlL tmkT durT mdL
set_option maxHeartbeats 4000000 in
theorem C_tactusref22_made (m : Mn) (hm : ckM m = 0) (s : Sp) (hV1 : 1 ≤ s.Value) (hV8 : s.Value ≤ 8) (hW1 : 1 ≤ s.Way) (hW8 : s.Way ≤ 8) : Fn Tryz.prog 16 [mnA m, spA s] (tmsA (mdL m s.Value s.Way)) := by
  have hF := fe_of hm hV1 hV8
  have hf1 := hF.n
  have hf2 := hF.n1
  have hf3 := hF.d
  have hf4 := (ckT_b hF.ck).2.2.2.2.1
  obtain ⟨hd1, hd2, hd3, hd4⟩ := du_of hm hV1 hV8
  have hDur := C_tactusref11_Dur m s.Value
  rw [ckMV_0 hm hV1 hV8, if_pos rfl] at hDur
  obtain ⟨D, hD⟩ : ∃ D, D = rlL m s.Value (5 - s.Value).toNat s.Value (fullT m s.Value) := ⟨_, rfl⟩
  have hLo := C_tactusref22_lost m hm s.Value hV1 (5 - s.Value).toNat s.Value (fullT m s.Value) rfl hV1 hV8
  rw [← hD] at hLo
  have hDl := rlL_len m s.Value (5 - s.Value).toNat s.Value (fullT m s.Value)
  rw [← hD] at hDl
  have hp4 : 3 ^ (5 - s.Value).toNat ≤ 3 ^ 4 := Nat.pow_le_pow_right (by decide) (by omega)
  have hp5 : 3 ^ 4 = 81 := rfl
  refine Fn.go Tryz.func16 Tryz.ntmps16 (fun g w d => ?_)
  refine X.seq ?_
  refine X.region ?_
  refine Ex.ba ?_
  refine Ex.ba ?_
  refine Ex.pu ?_
  refine Ex.nil ?_
  refine X.seq ?_
  refine X.region ?_
  iterate 3 refine Ex.pu ?_
  refine Ex.nil ?_
  refine X.seq ?_
  refine X.region ?_
  iterate 2 refine Ex.pu ?_
  refine Ex.ca (C_tactusref05_FullV hm hV1 hV8) ?_
  iterate 3 refine Ex.pu ?_
  refine Ex.al ?_
  refine Ex.mo ?_
  refine Ex.pu ?_
  refine Ex.nil ?_
  refine X.seq ?_
  refine X.region ?_
  iterate 2 refine Ex.pu ?_
  refine Ex.ca hDur ?_
  iterate 3 refine Ex.pu ?_
  refine Ex.al ?_
  refine Ex.mo ?_
  refine Ex.pu ?_
  refine Ex.nil ?_
  refine X.seq ?_
  refine X.seq ?_
  refine X.region ?_
  iterate 2 refine Ex.pu ?_
  refine Ex.nil ?_
  refine X.block ?_
  refine X.seqJ ⟨[(2, .ptr 2 0 0 0), (5, iv s.Value), (6, .ptr 6 0 0 0), (8, .ptr 8 0 0 0), (28, iv s.Way), (29, .bool (decide (s.Way = 1 ∨ s.Way = 8)))], [(2, .box (mnE m) 23), (6, .box (tmE (fullT m s.Value)) 51), (8, .box (tmE (durT m s.Value)) 51)]⟩ (fun hJ7 => ?_) ?_
  · refine X.seq ?_
    refine X.region ?_
    iterate 2 refine Ex.pu ?_
    refine Ex.nil ?_
    refine X.cd rfl (fun hc1 => ?_) (fun hc1 => ?_)
    · have hb : decide (s.Way = 1) = decide (s.Way = 1 ∨ s.Way = 8) := by simp [hc1]
      refine X.skip ?_
      exact X.imp Imp.ax hJ7
    · have hb : decide (s.Way = 8) = decide (s.Way = 1 ∨ s.Way = 8) := by simp [hc1]
      refine X.region ?_
      iterate 2 refine Ex.pu ?_
      refine Ex.nil ?_
      exact X.imp Imp.ax hJ7
  refine X.cd rfl (fun hc2 => ?_) (fun hc2 => ?_)
  · have hV : [fullT m s.Value] = mdL m s.Value s.Way := by unfold mdL; rw [if_pos hc2]
    refine X.seq ?_
    refine X.region ?_
    refine Ex.pu ?_
    refine Ex.bs tmE [fullT m s.Value] ?_
    refine Ex.pu ?_
    refine Ex.nil ?_
    refine X.ret ?_
    refine RetQ.imp (Imp.freeze (k := 33) rfl) ?_
    refine RetQ.ret (.one (.tmp rfl (LeV.eq ?_)))
    all_goals (first | exact congrArg tmsA hV | rfl)
  refine X.seq ?_
  refine X.region ?_
  iterate 2 refine Ex.pu ?_
  refine Ex.nil ?_
  refine X.cd rfl (fun hc3 => ?_) (fun hc3 => ?_)
  · have hw2 : s.Way = 2 := hc3
    refine X.seq ?_
    refine X.region ?_
    iterate 2 refine Ex.pu ?_
    refine Ex.ca (C_tactusref05_P m s.Value) ?_
    refine Ex.pu ?_
    refine Ex.nil ?_
    refine X.cd rfl (fun hc4 => ?_) (fun hc4 => ?_)
    · have hV : [tmkT ((fullT m s.Value).N * 3) ((fullT m s.Value).D * 2)] = mdL m s.Value s.Way := by unfold mdL; rw [if_neg (by omega), if_pos hw2, if_pos hc4]
      refine X.seq ?_
      refine X.region ?_
      refine Ex.pu ?_
      refine Ex.ca (C_tactusref22_scaled (fullT m s.Value) 3 2 (by omega) (by omega)) ?_
      refine Ex.pu ?_
      refine Ex.nil ?_
      refine X.ret ?_
      refine RetQ.ret (.one (.tmp rfl (LeV.eq ?_)))
      all_goals (exact congrArg tmsA hV)
    have hV : [] = mdL m s.Value s.Way := by unfold mdL; rw [if_neg (by omega), if_pos hw2, if_neg hc4]
    refine X.skip ?_
    refine X.seq ?_
    refine X.region ?_
    refine Ex.pu ?_
    refine Ex.nil ?_
    refine X.ret ?_
    refine RetQ.imp (Imp.au (ts := [(4, tmsA [])]) (hs := [])) ?_
    refine RetQ.ret (.one (.tmp rfl (LeV.eq ?_)))
    all_goals (first | exact congrArg tmsA hV | rfl)
  · refine X.seq ?_
    refine X.region ?_
    iterate 2 refine Ex.pu ?_
    refine Ex.nil ?_
    refine X.cd rfl (fun hc5 => ?_) (fun hc5 => ?_)
    · have hw3 : s.Way = 3 := hc5
      refine X.seq ?_
      refine X.region ?_
      refine Ex.pu ?_
      refine Ex.nil ?_
      refine X.seq ?_
      refine X.imp (Imp.mkrow tmE 51 2 10 10 rfl rfl) ?_
      refine X.region ?_
      iterate 4 refine Ex.pu ?_
      refine Ex.ca hLo ?_
      refine Ex.pu ?_
      refine Ex.nil ?_
      refine X.seq ?_
      refine X.seq ?_
      refine X.region ?_
      refine Ex.pu ?_
      refine Ex.nil ?_
      refine X.block ?_
      have hq0 : [] = (D.take 0).filter (fun x => !decide (x = fullT m s.Value)) := by simp
      refine X.lp (ι := Nat) (fun (k : Nat) => [(6, .ptr 6 0 0 0), (10, .own 10), (11, tmsA D), (12, iv (k : Int))]) (fun (k : Nat) => [(6, .box (tmE (fullT m s.Value)) 51), (10, .row tmE ((D.take k).filter (fun x => !decide (x = fullT m s.Value))) 51 2)]) (fun (k : Nat) => k ≤ D.length) (fun (k : Nat) => D.length - k) 0 (fun k hk => ?_) (h0 := by
        exact Imp.ax)
      refine X.seq ?_
      refine X.seq ?_
      refine X.region ?_
      iterate 4 refine Ex.pu ?_
      refine Ex.nil ?_
      refine X.cd rfl (fun hc6 => ?_) (fun hc6 => ?_)
      · obtain ⟨u, hu⟩ : ∃ u, D[k]? = some u := ⟨_, List.getElem?_eq_getElem (by omega)⟩
        have hu2 : D[(k : Int).toNat]? = some u := by simpa using hu
        have hst := fil_step (F := fullT m s.Value) hu
        have hfl := List.length_filter_le (fun x => !decide (x = fullT m s.Value)) (D.take k)
        have htl : (D.take k).length ≤ D.length := by rw [List.length_take]; omega
        refine X.skip ?_
        refine X.seq ?_
        refine X.block ?_
        refine X.seq ?_
        refine X.dw [55,56,57,58,59,60] [0,0,3,7,0,31] mo ?_
        iterate 6 refine ChM.pu ?_
        refine ChM.tl ?_
        refine Ex.nil ?_
        refine X.cd rfl (fun hc7 => ?_) (fun hc7 => ?_)
        · rw [if_neg hc7] at hst
          have hst2 := hst.symm
          refine X.region ?_
          iterate 5 refine Ex.pu ?_
          refine Ex.bs tmE [u] ?_
          refine Ex.mo ?_
          refine Ex.pu ?_
          refine Ex.nil ?_
          refine X.region ?_
          iterate 3 refine Ex.pu ?_
          refine Ex.nil ?_
          refine X.bk (k + 1) (hI := Imp.ax)
        · rw [if_pos hc7, List.append_nil] at hst
          have hst2 := hst.symm
          refine X.skip ?_
          refine X.region ?_
          iterate 3 refine Ex.pu ?_
          refine Ex.nil ?_
          refine X.bk (k + 1) (hI := Imp.ax)
      · have hkD : k = D.length := by omega
        subst hkD
        have hV : (D.take D.length).filter (fun x => !decide (x = fullT m s.Value)) = mdL m s.Value s.Way := by unfold mdL; rw [if_neg (by omega), if_neg (by omega), if_pos hw3, List.take_length, hD]
        refine X.exit ?_
        refine X.seq ?_
        refine X.region ?_
        iterate 2 refine Ex.pu ?_
        refine Ex.nil ?_
        refine X.ret ?_
        refine RetQ.imp (Imp.freeze (k := 10) rfl) ?_
        refine RetQ.ret (.one (.tmp rfl (LeV.eq ?_)))
        all_goals (first | exact congrArg tmsA hV | rfl)
    refine X.seq ?_
    refine X.region ?_
    iterate 2 refine Ex.pu ?_
    refine Ex.nil ?_
    refine X.cd rfl (fun hc8 => ?_) (fun hc8 => ?_)
    · have hw4 : s.Way = 4 := hc8
      refine X.seq ?_
      refine X.region ?_
      iterate 2 refine Ex.pu ?_
      refine ExF.at 2 ?_
      refine ExF.pu ?_
      iterate 2 refine ExF.gi ?_
      iterate 2 refine ExF.pu ?_
      iterate 3 refine ExF.gi ?_
      refine ExF.cg (C_tactusref05_P m (s.Value - 1)) ?_
      refine ExF.gi ?_
      refine ExF.done ?_
      refine Ex.pu ?_
      refine Ex.nil ?_
      refine X.cd rfl (fun hc9 => ?_) (fun hc9 => ?_)
      · have hV : [tmkT ((fullT m s.Value).N * 2) ((fullT m s.Value).D * 1)] = mdL m s.Value s.Way := by unfold mdL; rw [if_neg (by omega), if_neg (by omega), if_neg (by omega), if_pos hw4, if_pos hc9]
        refine X.seq ?_
        refine X.region ?_
        refine Ex.pu ?_
        refine Ex.ca (C_tactusref22_scaled (fullT m s.Value) 2 1 (by omega) (by omega)) ?_
        refine Ex.pu ?_
        refine Ex.nil ?_
        refine X.ret ?_
        refine RetQ.ret (.one (.tmp rfl (LeV.eq ?_)))
        all_goals (exact congrArg tmsA hV)
      have hV : [] = mdL m s.Value s.Way := by unfold mdL; rw [if_neg (by omega), if_neg (by omega), if_neg (by omega), if_pos hw4, if_neg (by omega)]
      refine X.skip ?_
      refine X.seq ?_
      refine X.region ?_
      refine Ex.pu ?_
      refine Ex.nil ?_
      refine X.ret ?_
      refine RetQ.imp (Imp.au (ts := [(4, tmsA [])]) (hs := [])) ?_
      refine RetQ.ret (.one (.tmp rfl (LeV.eq ?_)))
      all_goals (first | exact congrArg tmsA hV | rfl)
    · refine X.seq ?_
      refine X.region ?_
      iterate 2 refine Ex.pu ?_
      refine Ex.nil ?_
      refine X.cd rfl (fun hc10 => ?_) (fun hc10 => ?_)
      · have hV : [durT m s.Value] = mdL m s.Value s.Way := by unfold mdL; rw [if_neg (by omega), if_neg (by omega), if_neg (by omega), if_neg (by omega), if_pos hc10]
        refine X.seq ?_
        refine X.region ?_
        refine Ex.pu ?_
        refine Ex.bs tmE [durT m s.Value] ?_
        refine Ex.pu ?_
        refine Ex.nil ?_
        refine X.ret ?_
        refine RetQ.imp (Imp.freeze (k := 89) rfl) ?_
        refine RetQ.ret (.one (.tmp rfl (LeV.eq ?_)))
        all_goals (first | exact congrArg tmsA hV | rfl)
      refine X.seq ?_
      refine X.region ?_
      iterate 2 refine Ex.pu ?_
      refine Ex.nil ?_
      refine X.cd rfl (fun hc11 => ?_) (fun hc11 => ?_)
      · have hV : [tmkT ((durT m s.Value).N * 3) ((durT m s.Value).D * 2)] = mdL m s.Value s.Way := by unfold mdL; rw [if_neg (by omega), if_neg (by omega), if_neg (by omega), if_neg (by omega), if_neg (by omega), if_pos hc11]
        refine X.seq ?_
        refine X.region ?_
        refine Ex.pu ?_
        refine Ex.ca (C_tactusref22_scaled (durT m s.Value) 3 2 (by omega) (by omega)) ?_
        refine Ex.pu ?_
        refine Ex.nil ?_
        refine X.ret ?_
        refine RetQ.ret (.one (.tmp rfl (LeV.eq ?_)))
        all_goals (exact congrArg tmsA hV)
      refine X.seq ?_
      refine X.region ?_
      iterate 2 refine Ex.pu ?_
      refine Ex.nil ?_
      refine X.cd rfl (fun hc12 => ?_) (fun hc12 => ?_)
      · have hw7 : s.Way = 7 := hc12
        refine X.seq ?_
        refine X.seq ?_
        refine X.region ?_
        refine Ex.pu ?_
        refine Ex.ca (C_tactusref05_P m 4) ?_
        refine Ex.pu ?_
        refine ExF.at 3 ?_
        refine ExF.pu ?_
        iterate 2 refine ExF.gi ?_
        refine ExF.done ?_
        refine Ex.pu ?_
        refine Ex.nil ?_
        refine X.cd rfl (fun hc13 => ?_) (fun hc13 => ?_)
        · have hV : [⟨3, 2⟩] = mdL m s.Value s.Way := by unfold mdL; rw [if_neg (by omega), if_neg (by omega), if_neg (by omega), if_neg (by omega), if_neg (by omega), if_neg (by omega), if_pos hw7, if_pos hc13]
          refine X.seq ?_
          refine X.region ?_
          refine Ex.pu ?_
          refine Ex.bs tmE [⟨3, 2⟩] ?_
          refine Ex.pu ?_
          refine Ex.nil ?_
          refine X.ret ?_
          refine RetQ.imp (Imp.freeze (k := 104) rfl) ?_
          refine RetQ.ret (.one (.tmp rfl (LeV.eq ?_)))
          all_goals (first | exact congrArg tmsA hV | rfl)
        refine X.skip ?_
        refine X.seq ?_
        refine X.region ?_
        refine Ex.pu ?_
        refine Ex.ca (C_tactusref05_P m 4) ?_
        refine Ex.pu ?_
        refine ExF.at 3 ?_
        refine ExF.pu ?_
        iterate 2 refine ExF.gi ?_
        refine ExF.done ?_
        refine Ex.pu ?_
        refine Ex.nil ?_
        refine X.cd rfl (fun hc14 => ?_) (fun hc14 => ?_)
        · have hV : [⟨1, 2⟩] = mdL m s.Value s.Way := by unfold mdL; rw [if_neg (by omega), if_neg (by omega), if_neg (by omega), if_neg (by omega), if_neg (by omega), if_neg (by omega), if_pos hw7, if_neg (by omega), if_pos hc14]
          refine X.seq ?_
          refine X.region ?_
          refine Ex.pu ?_
          refine Ex.bs tmE [⟨1, 2⟩] ?_
          refine Ex.pu ?_
          refine Ex.nil ?_
          refine X.ret ?_
          refine RetQ.imp (Imp.freeze (k := 113) rfl) ?_
          refine RetQ.ret (.one (.tmp rfl (LeV.eq ?_)))
          all_goals (first | exact congrArg tmsA hV | rfl)
        have hV : [] = mdL m s.Value s.Way := by unfold mdL; rw [if_neg (by omega), if_neg (by omega), if_neg (by omega), if_neg (by omega), if_neg (by omega), if_neg (by omega), if_pos hw7, if_neg (by omega), if_neg (by omega)]
        refine X.skip ?_
        refine X.seq ?_
        refine X.region ?_
        refine Ex.pu ?_
        refine Ex.nil ?_
        refine X.ret ?_
        refine RetQ.imp (Imp.au (ts := [(4, tmsA [])]) (hs := [])) ?_
        refine RetQ.ret (.one (.tmp rfl (LeV.eq ?_)))
        all_goals (first | exact congrArg tmsA hV | rfl)
      · omega
end Go.Rse
