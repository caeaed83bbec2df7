/-
  Walks: the reference for spellings: small parts.
-/
import Derived.Test.YteecbmgddacioaaGreatSpell5
import Derived.Test.YteecbmgddacioaaGreatRse37
namespace Go.Rse
open Go Go.Proofs
set_option linter.unusedVariables false
set_option linter.unusedSimpArgs false
attribute [local irreducible] Pur StepA StepM Ex X ExG Fn Imp LeV LeB FnO It YStep
theorem cmpV_neg (a b : Tm) : decide (cmpV a b < 0) = decide (ckT a = 0 ∧ ckT b = 0 ∧ ltT a b) := by
  apply decide_eq_decide.2
  by_cases h : ckT a = 0 ∧ ckT b = 0
  · rw [cmpV_lt h.1 h.2]; simp [h.1, h.2]
  · have : cmpV a b = 0 := by
      unfold cmpV
      rw [if_neg (fun e => h (first2 e))]
    rw [this]
    constructor
    · intro e; omega
    · intro e; exact absurd ⟨e.1, e.2.1⟩ h
/-- The place of a time in an ascending list. -/
def inA (l : List Tm) (t : Tm) : Nat := l.findIdx fun u => !decide (cmpV u t < 0)
def insT (l : List Tm) (t : Tm) : List Tm := if l[inA l t]? = some t then l else l.take (inA l t) ++ [t] ++ l.drop (inA l t)
theorem inA_le (l : List Tm) (t : Tm) : inA l t ≤ l.length := List.findIdx_le_length
theorem inA_at {l : List Tm} {t : Tm} {k : Nat} (h : ∀ i u, i < k → l[i]? = some u → cmpV u t < 0) (hk : k ≤ l.length) (h2 : k = l.length ∨ ∃ u, l[k]? = some u ∧ ¬ cmpV u t < 0) : inA l t = k := by
  unfold inA
  rcases h2 with rfl | ⟨u, hu, hn⟩
  · refine List.findIdx_eq_length.2 fun x hx => ?_
    obtain ⟨i, hi⟩ := List.mem_iff_getElem?.1 hx
    have := h i x (List.getElem?_eq_some_iff.1 hi).1 hi
    simp [this]
  · have hkl := (List.getElem?_eq_some_iff.1 hu).1
    refine (List.findIdx_eq hkl).2 ⟨?_, fun j hj => ?_⟩
    · rw [(List.getElem?_eq_some_iff.1 hu).2]; simp; omega
    · have := h j _ hj (List.getElem?_eq_getElem (by omega))
      simp [this]
theorem insT_len (l : List Tm) (t : Tm) : (insT l t).length ≤ l.length + 1 := by
  have := inA_le l t
  unfold insT; split <;> simp <;> omega
attribute [local irreducible] cmpV
theorem C_tactusref22_form (v y : Int) : Fn Tryz.prog 30 [iv v, iv y] (spA (spOf v y)) := by
  refine Fn.go Tryz.func30 Tryz.ntmps30 (fun g w d => ?_)
  refine X.seq ?_
  refine X.region ?_
  refine Ex.al ?_
  refine Ex.nil ?_
  refine X.seq ?_
  refine X.region ?_
  iterate 5 refine Ex.pu ?_
  refine ExF.at 5 ?_
  refine ExF.pu ?_
  iterate 2 refine ExF.gi ?_
  iterate 2 refine ExF.pu ?_
  iterate 2 refine ExF.gi ?_
  iterate 4 refine ExF.pu ?_
  iterate 2 refine ExF.gi ?_
  refine ExF.done ?_
  iterate 3 refine Ex.pu ?_
  refine Ex.mo ?_
  refine Ex.nil ?_
  refine X.ret ?_
  refine RetQ.ret (.one (.cellA rfl rfl rfl rfl ty25 (LeV.eq ?_)))
  all_goals (rfl)
theorem C_tactusref22_less (a b : Tm) : Fn Tryz.prog 59 [tmA a, tmA b] (.bool (decide (cmpV a b < 0))) := by
  refine Fn.go Tryz.func59 Tryz.ntmps59 (fun g w d => ?_)
  refine X.seq ?_
  refine X.region ?_
  refine Ex.ba ?_
  refine Ex.ba ?_
  refine Ex.pu ?_
  refine Ex.nil ?_
  refine X.seq ?_
  refine X.region ?_
  iterate 2 refine Ex.pu ?_
  refine Ex.ca (C_tactusref01_Compare a b) ?_
  iterate 5 refine Ex.pu ?_
  refine Ex.nil ?_
  refine X.seq ?_
  refine X.region ?_
  iterate 3 refine Ex.pu ?_
  refine Ex.nil ?_
  refine X.ret ?_
  refine RetQ.ret (.one (.tmp rfl (LeV.eq ?_)))
  all_goals (first | rfl | (simp_all; done))
theorem C_tactusref22_scaled (t : Tm) (n q : Int) (h : -9223372036854775808 ≤ t.N * n ∧ t.N * n ≤ 9223372036854775807) (h2 : -9223372036854775808 ≤ t.D * q ∧ t.D * q ≤ 9223372036854775807) : Fn Tryz.prog 34 [tmA t, iv n, iv q] (tmsA [tmkT (t.N * n) (t.D * q)]) := by
  refine Fn.go Tryz.func34 Tryz.ntmps34 (fun g w d => ?_)
  refine X.seq ?_
  refine X.region ?_
  refine Ex.ba ?_
  refine Ex.pu ?_
  refine Ex.nil ?_
  refine X.seq ?_
  refine X.region ?_
  iterate 8 refine Ex.pu ?_
  refine Ex.ca (C_tactusref01_Make (t.N * n) (t.D * q) (by omega) (by omega)) ?_
  iterate 3 refine Ex.pu ?_
  refine Ex.al ?_
  refine Ex.mo ?_
  refine Ex.pu ?_
  refine Ex.nil ?_
  refine X.seq ?_
  refine X.region ?_
  refine Ex.pu ?_
  refine Ex.bs tmE [tmkT (t.N * n) (t.D * q)] ?_
  refine Ex.pu ?_
  refine Ex.nil ?_
  refine X.ret ?_
  refine RetQ.imp (Imp.freeze (k := 22) rfl) ?_
  refine RetQ.ret (.one (.tmp rfl (LeV.eq ?_)))
  all_goals (rfl)
set_option maxHeartbeats 2000000 in
theorem C_tactusref22_insert (l : List Tm) (t : Tm) (hl : l.length ≤ 100000) : Fn Tryz.prog 58 [tmsA l, tmA t] (tmsA (insT l t)) := by
  refine Fn.go Tryz.func58 Tryz.ntmps58 (fun g w d => ?_)
  refine X.seq ?_
  refine X.region ?_
  refine Ex.ba ?_
  refine Ex.pu ?_
  refine Ex.nil ?_
  refine X.seq ?_
  refine X.region ?_
  refine Ex.pu ?_
  refine Ex.nil ?_
  refine X.seq ?_
  refine X.block ?_
  refine X.lp (ι := Nat) (fun (k : Nat) => [(0, tmsA l), (3, .ptr 3 0 0 0), (5, iv (k : Int))]) (fun (k : Nat) => [(3, .box (tmE t) 51)]) (fun (k : Nat) => k ≤ l.length ∧ ∀ i u, i < k → l[i]? = some u → cmpV u t < 0) (fun (k : Nat) => l.length - k) 0 (fun k hk => ?_) (hJ := by
    exact ⟨by omega, fun i u h => absurd h (Nat.not_lt_zero i)⟩)
  obtain ⟨hk1, hk2⟩ := hk
  have hv : k < l.length → l[k]? = some (l.getD (k : Int).toNat default) := fun h => by
    rw [Int.toNat_natCast, List.getD_eq_getElem?_getD, List.getElem?_eq_getElem h]; rfl
  refine X.seq ?_
  refine X.seq ?_
  refine X.dw [6,7,8,9,10,11,12,13,14,15,16,17] [0,0,2,7,15,31,31,127,255,31,1023,2047] mo ?_
  iterate 5 refine ChM.pu ?_
  iterate 5 refine ChM.gi ?_
  refine ChM.cg (C_tactusref22_less (l.getD (k : Int).toNat default) t) ?_
  refine ChM.pu ?_
  refine ChM.tl ?_
  refine Ex.nil ?_
  refine X.cd rfl (fun hc1 => ?_) (fun hc1 => ?_)
  · refine X.skip ?_
    refine X.block ?_
    refine X.region ?_
    iterate 3 refine Ex.pu ?_
    refine Ex.nil ?_
    refine X.bk (k + 1) (hJ := by
      refine ⟨by omega, fun i u hi hu => ?_⟩
      rcases Nat.lt_succ_iff_lt_or_eq.1 hi with h | h
      · exact hk2 i u h hu
      · subst h; rw [hv (by omega)] at hu; injection hu with hu; subst hu; exact hc1.2)
  · have hin : inA l t = k := by
      by_cases hkl : k < l.length
      · exact inA_at hk2 hk1 (.inr ⟨_, hv hkl, by rcases hc1 with h | h; omega; omega⟩)
      · exact inA_at hk2 hk1 (.inl (by omega))
    refine X.exit ?_
    refine X.seq ?_
    refine X.seq ?_
    refine X.dw [20,21,22,23,24,25,26,27,28,29,30,31] [0,0,2,7,15,31,31,127,255,31,1023,2047] mo ?_
    iterate 5 refine ChM.pu ?_
    iterate 6 refine ChM.gi ?_
    refine ChM.pu ?_
    refine ChM.tl ?_
    refine Ex.nil ?_
    refine X.cd rfl (fun hc2 => ?_) (fun hc2 => ?_)
    · have hV : l = insT l t := by unfold insT; rw [hin, hv (by omega), if_pos (by rw [hc2.2])]
      refine X.seq ?_
      refine X.region ?_
      iterate 2 refine Ex.pu ?_
      refine Ex.nil ?_
      refine X.ret ?_
      refine RetQ.ret (.one (.tmp rfl (LeV.eq ?_)))
      all_goals (exact congrArg tmsA hV)
    have hV : [] ++ l.take (k : Int).toNat ++ [t] ++ l.drop (k : Int).toNat = insT l t := by
      unfold insT
      rw [hin, Int.toNat_natCast, if_neg (fun e => ?_)]; simp
      have hkl := (List.getElem?_eq_some_iff.1 e).1
      rw [hv hkl] at e; injection e with e
      rcases hc2 with h | h; omega; exact h e
    refine X.skip ?_
    refine X.seq ?_
    refine X.drawQ [⟨1, 34, tmsA l, []⟩, ⟨2, 35, iv (k : Int), []⟩, ⟨3, 36, tmsA (l.take (k : Int).toNat), [2, 1]⟩, ⟨5, 38, tmA t, []⟩, ⟨6, 39, tmsA [t], [5]⟩, ⟨8, 41, tmsA l, []⟩, ⟨9, 42, iv (k : Int), []⟩, ⟨10, 43, tmsA (l.drop (k : Int).toNat), [9, 8]⟩] [(0, []), (4, [2, 1, 3, 0]), (7, [2, 1, 5, 3, 0, 6, 4]), (11, [2, 1, 5, 3, 0, 9, 8, 6, 4, 10, 7]), (12, [10, 9, 8, 7, 6, 5, 4, 3, 2, 1, 0, 11])] (fun j => match j with | 0 => ⟨[(0, tmsA l), (3, .ptr 3 0 0 0), (5, iv (k : Int))], [(3, .box (tmE t) 51)]⟩ | 1 => ⟨[(0, tmsA l), (3, .ptr 3 0 0 0), (5, iv (k : Int)), (33, .own 33)], [(3, .box (tmE t) 51), (33, .row tmE ([]) 51 2)]⟩ | 2 => ⟨[(0, tmsA l), (3, .ptr 3 0 0 0), (5, iv (k : Int)), (37, .own 33)], [(3, .box (tmE t) 51), (33, .row tmE ([] ++ l.take (k : Int).toNat) 51 2)]⟩ | 3 => ⟨[(0, tmsA l), (3, .ptr 3 0 0 0), (5, iv (k : Int)), (40, .own 33)], [(3, .box (tmE t) 51), (33, .row tmE ([] ++ l.take (k : Int).toNat ++ [t]) 51 2)]⟩ | 4 => ⟨[(0, tmsA l), (3, .ptr 3 0 0 0), (5, iv (k : Int)), (44, .own 33)], [(3, .box (tmE t) 51), (33, .row tmE ([] ++ l.take (k : Int).toNat ++ [t] ++ l.drop (k : Int).toNat) 51 2)]⟩ | _ => ⟨[(0, tmsA l), (3, .ptr 3 0 0 0), (5, iv (k : Int)), (4, .own 33)], [(3, .box (tmE t) 51), (33, .row tmE ([] ++ l.take (k : Int).toNat ++ [t] ++ l.drop (k : Int).toNat) 51 2)]⟩) mo (by kernel_rfl) (Imp.SP0 (Imp.au)) (fun j hj => ?_) (fun j c hc β hβ => ?_) ?_
    · rcases j with _ | _ | _ | _ | _ | _ | j
      · refine ⟨.inr ⟨_, rfl, rfl, rfl, rfl, Pur.stepA Pur.au⟩, ?_⟩
        refine ⟨.inr ⟨_, rfl, rfl, rfl, rfl, Pur.stepA Pur.au⟩, ?_⟩
        first
          | refine ⟨.inr ⟨_, rfl, rfl, rfl, rfl, Pur.stepA (P_slice_head rfl rfl rfl sl26 ty51 (by omega) (by omega))⟩, ?_⟩
          | refine ⟨.inr ⟨_, rfl, rfl, rfl, rfl, Pur.stepA (P_slice_slH rfl rfl sl26 ty51 (fun _ => rfl) (by omega) (by omega))⟩, ?_⟩
        refine ⟨.inr ⟨_, rfl, rfl, rfl, rfl, Pur.stepA Pur.au⟩, ?_⟩
        refine ⟨.inr ⟨_, rfl, rfl, rfl, rfl, A_buildSliceF (enc := tmE) (l := [t]) sl26 ty51 ze51 (by decide) rfl rfl rfl rfl (by decide) (by decide) (fun _ => rfl) rfl⟩, ?_⟩
        refine ⟨.inr ⟨_, rfl, rfl, rfl, rfl, Pur.stepA Pur.au⟩, ?_⟩
        refine ⟨.inr ⟨_, rfl, rfl, rfl, rfl, Pur.stepA Pur.au⟩, ?_⟩
        first
          | refine ⟨.inr ⟨_, rfl, rfl, rfl, rfl, Pur.stepA (P_slice_tail rfl rfl rfl sl26 ty51 (by omega) (by omega))⟩, ?_⟩
          | refine ⟨.inr ⟨_, rfl, rfl, rfl, rfl, Pur.stepA (P_slice_slT rfl rfl sl26 ty51 (fun _ => rfl) (by omega) (by omega))⟩, ?_⟩
        exact True.intro
      · refine ⟨.inr ⟨_, rfl, rfl, rfl, rfl, Pur.stepA Pur.au⟩, ?_⟩
        refine ⟨.inr ⟨_, rfl, rfl, rfl, rfl, Pur.stepA Pur.au⟩, ?_⟩
        first
          | refine ⟨.inr ⟨_, rfl, rfl, rfl, rfl, Pur.stepA (P_slice_head rfl rfl rfl sl26 ty51 (by omega) (by omega))⟩, ?_⟩
          | refine ⟨.inr ⟨_, rfl, rfl, rfl, rfl, Pur.stepA (P_slice_slH rfl rfl sl26 ty51 (fun _ => rfl) (by omega) (by omega))⟩, ?_⟩
        refine ⟨.inr ⟨_, rfl, rfl, rfl, rfl, Pur.stepA Pur.au⟩, ?_⟩
        refine ⟨.inr ⟨_, rfl, rfl, rfl, rfl, A_buildSliceF (enc := tmE) (l := [t]) sl26 ty51 ze51 (by decide) rfl rfl rfl rfl (by decide) (by decide) (fun _ => rfl) rfl⟩, ?_⟩
        refine ⟨.inr ⟨_, rfl, rfl, rfl, rfl, Pur.stepA Pur.au⟩, ?_⟩
        refine ⟨.inr ⟨_, rfl, rfl, rfl, rfl, Pur.stepA Pur.au⟩, ?_⟩
        first
          | refine ⟨.inr ⟨_, rfl, rfl, rfl, rfl, Pur.stepA (P_slice_tail rfl rfl rfl sl26 ty51 (by omega) (by omega))⟩, ?_⟩
          | refine ⟨.inr ⟨_, rfl, rfl, rfl, rfl, Pur.stepA (P_slice_slT rfl rfl sl26 ty51 (fun _ => rfl) (by omega) (by omega))⟩, ?_⟩
        exact True.intro
      · refine ⟨.inl rfl, ?_⟩
        refine ⟨.inl rfl, ?_⟩
        refine ⟨.inl rfl, ?_⟩
        refine ⟨.inr ⟨_, rfl, rfl, rfl, rfl, Pur.stepA Pur.au⟩, ?_⟩
        refine ⟨.inr ⟨_, rfl, rfl, rfl, rfl, A_buildSliceF (enc := tmE) (l := [t]) sl26 ty51 ze51 (by decide) rfl rfl rfl rfl (by decide) (by decide) (fun _ => rfl) rfl⟩, ?_⟩
        refine ⟨.inr ⟨_, rfl, rfl, rfl, rfl, Pur.stepA Pur.au⟩, ?_⟩
        refine ⟨.inr ⟨_, rfl, rfl, rfl, rfl, Pur.stepA Pur.au⟩, ?_⟩
        first
          | refine ⟨.inr ⟨_, rfl, rfl, rfl, rfl, Pur.stepA (P_slice_tail rfl rfl rfl sl26 ty51 (by omega) (by omega))⟩, ?_⟩
          | refine ⟨.inr ⟨_, rfl, rfl, rfl, rfl, Pur.stepA (P_slice_slT rfl rfl sl26 ty51 (fun _ => rfl) (by omega) (by omega))⟩, ?_⟩
        exact True.intro
      · refine ⟨.inl rfl, ?_⟩
        refine ⟨.inl rfl, ?_⟩
        refine ⟨.inl rfl, ?_⟩
        refine ⟨.inl rfl, ?_⟩
        refine ⟨.inl rfl, ?_⟩
        refine ⟨.inr ⟨_, rfl, rfl, rfl, rfl, Pur.stepA Pur.au⟩, ?_⟩
        refine ⟨.inr ⟨_, rfl, rfl, rfl, rfl, Pur.stepA Pur.au⟩, ?_⟩
        first
          | refine ⟨.inr ⟨_, rfl, rfl, rfl, rfl, Pur.stepA (P_slice_tail rfl rfl rfl sl26 ty51 (by omega) (by omega))⟩, ?_⟩
          | refine ⟨.inr ⟨_, rfl, rfl, rfl, rfl, Pur.stepA (P_slice_slT rfl rfl sl26 ty51 (fun _ => rfl) (by omega) (by omega))⟩, ?_⟩
        exact True.intro
      · refine ⟨.inl rfl, ?_⟩
        refine ⟨.inl rfl, ?_⟩
        refine ⟨.inl rfl, ?_⟩
        refine ⟨.inl rfl, ?_⟩
        refine ⟨.inl rfl, ?_⟩
        refine ⟨.inl rfl, ?_⟩
        refine ⟨.inl rfl, ?_⟩
        refine ⟨.inl rfl, ?_⟩
        exact True.intro
      · refine ⟨.inl rfl, ?_⟩
        refine ⟨.inl rfl, ?_⟩
        refine ⟨.inl rfl, ?_⟩
        refine ⟨.inl rfl, ?_⟩
        refine ⟨.inl rfl, ?_⟩
        refine ⟨.inl rfl, ?_⟩
        refine ⟨.inl rfl, ?_⟩
        refine ⟨.inl rfl, ?_⟩
        exact True.intro
      · exact absurd (show j + 6 ≤ 5 from hj) (by omega)
    · rcases j with _ | _ | _ | _ | _ | j
      · obtain rfl : (0, []) = c := by injection hc
        refine Step1.mk rfl (StepM.pre (st0 := ⟨[(34, .ifb (β 1) (tmsA l)), (35, .ifb (β 2) (iv (k : Int))), (36, .ifb (β 3) (tmsA (l.take (k : Int).toNat))), (38, .ifb (β 5) (tmA t)), (39, .ifb (β 6) (tmsA [t])), (41, .ifb (β 8) (tmsA l)), (42, .ifb (β 9) (iv (k : Int))), (43, .ifb (β 10) (tmsA (l.drop (k : Int).toNat))), (0, tmsA l), (3, .ptr 3 0 0 0), (5, iv (k : Int))], [(3, .box (tmE t) 51)]⟩) (Imp.of (by (repeat' (first | exact True.intro | (refine And.intro ⟨_, rfl, ?_⟩ ?_; (first | exact LeV.refl _ | exact LeV.ifbT (hβ _ (by simp)) | exact LeV.toIfb _ _ | exact LeV.any _ | exact LeB.refl _ | (refine LeV.eq ?_; simp; done) | (refine LeV.eq ?_; congr 1; omega) | (refine LeV.eq ?_; dsimp only; congr 1; omega) | (refine LeV.eq (congrArg (AV.int _) ?_); omega) | exact LeV.nils _ | exact LeB.row (by assumption) | (refine LeB.eq ?_; congr 1; omega) | (refine LeB.eq ?_; congr 1; simp only [cond_true, cond_false]; omega)))))) (by (repeat' (first | exact True.intro | (refine And.intro ⟨_, rfl, ?_⟩ ?_; (first | exact LeV.refl _ | exact LeV.ifbT (hβ _ (by simp)) | exact LeV.toIfb _ _ | exact LeV.any _ | exact LeB.refl _ | (refine LeV.eq ?_; simp; done) | (refine LeV.eq ?_; congr 1; omega) | (refine LeV.eq ?_; dsimp only; congr 1; omega) | (refine LeV.eq (congrArg (AV.int _) ?_); omega) | exact LeV.nils _ | exact LeB.row (by assumption) | (refine LeB.eq ?_; congr 1; omega) | (refine LeB.eq ?_; congr 1; simp only [cond_true, cond_false]; omega))))))) ?_)
        refine StepM.imp (StepA.toM (A_buildSlice (k := 33) (enc := tmE) (l := ([] : List Tm)) sl26 ty51 ze51 (by decide) rfl rfl rfl rfl (by decide) (by decide) (fun _ => rfl) rfl) rfl rfl) (Imp.of (by (repeat' (first | exact True.intro | (refine And.intro ⟨_, rfl, ?_⟩ ?_; (first | exact LeV.refl _ | exact LeV.ifbT (hβ _ (by simp)) | exact LeV.toIfb _ _ | exact LeV.any _ | exact LeB.refl _ | (refine LeV.eq ?_; simp; done) | (refine LeV.eq ?_; congr 1; omega) | (refine LeV.eq ?_; dsimp only; congr 1; omega) | (refine LeV.eq (congrArg (AV.int _) ?_); omega) | exact LeV.nils _ | exact LeB.row (by assumption) | (refine LeB.eq ?_; congr 1; omega) | (refine LeB.eq ?_; congr 1; simp only [cond_true, cond_false]; omega)))))) (by (repeat' (first | exact True.intro | (refine And.intro ⟨_, rfl, ?_⟩ ?_; (first | exact LeV.refl _ | exact LeV.ifbT (hβ _ (by simp)) | exact LeV.toIfb _ _ | exact LeV.any _ | exact LeB.refl _ | (refine LeV.eq ?_; simp; done) | (refine LeV.eq ?_; congr 1; omega) | (refine LeV.eq ?_; dsimp only; congr 1; omega) | (refine LeV.eq (congrArg (AV.int _) ?_); omega) | exact LeV.nils _ | exact LeB.row (by assumption) | (refine LeB.eq ?_; congr 1; omega) | (refine LeB.eq ?_; congr 1; simp only [cond_true, cond_false]; omega)))))))
      · obtain rfl : (4, [2, 1, 3, 0]) = c := by injection hc
        refine Step1.mk rfl (StepM.pre (st0 := ⟨[(34, tmsA l), (35, iv (k : Int)), (36, tmsA (l.take (k : Int).toNat)), (38, .ifb (β 5) (tmA t)), (39, .ifb (β 6) (tmsA [t])), (41, .ifb (β 8) (tmsA l)), (42, .ifb (β 9) (iv (k : Int))), (43, .ifb (β 10) (tmsA (l.drop (k : Int).toNat))), (0, tmsA l), (3, .ptr 3 0 0 0), (5, iv (k : Int)), (33, .own 33)], [(3, .box (tmE t) 51), (33, .row tmE ([]) 51 2)]⟩) (Imp.of (by (repeat' (first | exact True.intro | (refine And.intro ⟨_, rfl, ?_⟩ ?_; (first | exact LeV.refl _ | exact LeV.ifbT (hβ _ (by simp)) | exact LeV.toIfb _ _ | exact LeV.any _ | exact LeB.refl _ | (refine LeV.eq ?_; simp; done) | (refine LeV.eq ?_; congr 1; omega) | (refine LeV.eq ?_; dsimp only; congr 1; omega) | (refine LeV.eq (congrArg (AV.int _) ?_); omega) | exact LeV.nils _ | exact LeB.row (by assumption) | (refine LeB.eq ?_; congr 1; omega) | (refine LeB.eq ?_; congr 1; simp only [cond_true, cond_false]; omega)))))) (by (repeat' (first | exact True.intro | (refine And.intro ⟨_, rfl, ?_⟩ ?_; (first | exact LeV.refl _ | exact LeV.ifbT (hβ _ (by simp)) | exact LeV.toIfb _ _ | exact LeV.any _ | exact LeB.refl _ | (refine LeV.eq ?_; simp; done) | (refine LeV.eq ?_; congr 1; omega) | (refine LeV.eq ?_; dsimp only; congr 1; omega) | (refine LeV.eq (congrArg (AV.int _) ?_); omega) | exact LeV.nils _ | exact LeB.row (by assumption) | (refine LeB.eq ?_; congr 1; omega) | (refine LeB.eq ?_; congr 1; simp only [cond_true, cond_false]; omega))))))) ?_)
        refine StepM.imp (M_append_sl rfl rfl rfl SlK.h TiK.h (by decide) (by decide) (fun _ => rfl) (fun _ => rfl) (by first | omega | (simp; done) | (simp; omega) | (simp_all; omega)) rfl) (Imp.of (by (repeat' (first | exact True.intro | (refine And.intro ⟨_, rfl, ?_⟩ ?_; (first | exact LeV.refl _ | exact LeV.ifbT (hβ _ (by simp)) | exact LeV.toIfb _ _ | exact LeV.any _ | exact LeB.refl _ | (refine LeV.eq ?_; simp; done) | (refine LeV.eq ?_; congr 1; omega) | (refine LeV.eq ?_; dsimp only; congr 1; omega) | (refine LeV.eq (congrArg (AV.int _) ?_); omega) | exact LeV.nils _ | exact LeB.row (by assumption) | (refine LeB.eq ?_; congr 1; omega) | (refine LeB.eq ?_; congr 1; simp only [cond_true, cond_false]; omega)))))) (by (repeat' (first | exact True.intro | (refine And.intro ⟨_, rfl, ?_⟩ ?_; (first | exact LeV.refl _ | exact LeV.ifbT (hβ _ (by simp)) | exact LeV.toIfb _ _ | exact LeV.any _ | exact LeB.refl _ | (refine LeV.eq ?_; simp; done) | (refine LeV.eq ?_; congr 1; omega) | (refine LeV.eq ?_; dsimp only; congr 1; omega) | (refine LeV.eq (congrArg (AV.int _) ?_); omega) | exact LeV.nils _ | exact LeB.row (by assumption) | (refine LeB.eq ?_; congr 1; omega) | (refine LeB.eq ?_; congr 1; simp only [cond_true, cond_false]; omega)))))))
      · obtain rfl : (7, [2, 1, 5, 3, 0, 6, 4]) = c := by injection hc
        refine Step1.mk rfl (StepM.pre (st0 := ⟨[(34, tmsA l), (35, iv (k : Int)), (36, tmsA (l.take (k : Int).toNat)), (38, tmA t), (39, tmsA [t]), (41, .ifb (β 8) (tmsA l)), (42, .ifb (β 9) (iv (k : Int))), (43, .ifb (β 10) (tmsA (l.drop (k : Int).toNat))), (0, tmsA l), (3, .ptr 3 0 0 0), (5, iv (k : Int)), (37, .own 33)], [(3, .box (tmE t) 51), (33, .row tmE ([] ++ l.take (k : Int).toNat) 51 2)]⟩) (Imp.of (by (repeat' (first | exact True.intro | (refine And.intro ⟨_, rfl, ?_⟩ ?_; (first | exact LeV.refl _ | exact LeV.ifbT (hβ _ (by simp)) | exact LeV.toIfb _ _ | exact LeV.any _ | exact LeB.refl _ | (refine LeV.eq ?_; simp; done) | (refine LeV.eq ?_; congr 1; omega) | (refine LeV.eq ?_; dsimp only; congr 1; omega) | (refine LeV.eq (congrArg (AV.int _) ?_); omega) | exact LeV.nils _ | exact LeB.row (by assumption) | (refine LeB.eq ?_; congr 1; omega) | (refine LeB.eq ?_; congr 1; simp only [cond_true, cond_false]; omega)))))) (by (repeat' (first | exact True.intro | (refine And.intro ⟨_, rfl, ?_⟩ ?_; (first | exact LeV.refl _ | exact LeV.ifbT (hβ _ (by simp)) | exact LeV.toIfb _ _ | exact LeV.any _ | exact LeB.refl _ | (refine LeV.eq ?_; simp; done) | (refine LeV.eq ?_; congr 1; omega) | (refine LeV.eq ?_; dsimp only; congr 1; omega) | (refine LeV.eq (congrArg (AV.int _) ?_); omega) | exact LeV.nils _ | exact LeB.row (by assumption) | (refine LeB.eq ?_; congr 1; omega) | (refine LeB.eq ?_; congr 1; simp only [cond_true, cond_false]; omega))))))) ?_)
        refine StepM.imp (M_append_sl rfl rfl rfl SlK.h TiK.h (by decide) (by decide) (fun _ => rfl) (fun _ => rfl) (by first | omega | (simp; done) | (simp; omega) | (simp_all; omega)) rfl) (Imp.of (by (repeat' (first | exact True.intro | (refine And.intro ⟨_, rfl, ?_⟩ ?_; (first | exact LeV.refl _ | exact LeV.ifbT (hβ _ (by simp)) | exact LeV.toIfb _ _ | exact LeV.any _ | exact LeB.refl _ | (refine LeV.eq ?_; simp; done) | (refine LeV.eq ?_; congr 1; omega) | (refine LeV.eq ?_; dsimp only; congr 1; omega) | (refine LeV.eq (congrArg (AV.int _) ?_); omega) | exact LeV.nils _ | exact LeB.row (by assumption) | (refine LeB.eq ?_; congr 1; omega) | (refine LeB.eq ?_; congr 1; simp only [cond_true, cond_false]; omega)))))) (by (repeat' (first | exact True.intro | (refine And.intro ⟨_, rfl, ?_⟩ ?_; (first | exact LeV.refl _ | exact LeV.ifbT (hβ _ (by simp)) | exact LeV.toIfb _ _ | exact LeV.any _ | exact LeB.refl _ | (refine LeV.eq ?_; simp; done) | (refine LeV.eq ?_; congr 1; omega) | (refine LeV.eq ?_; dsimp only; congr 1; omega) | (refine LeV.eq (congrArg (AV.int _) ?_); omega) | exact LeV.nils _ | exact LeB.row (by assumption) | (refine LeB.eq ?_; congr 1; omega) | (refine LeB.eq ?_; congr 1; simp only [cond_true, cond_false]; omega)))))))
      · obtain rfl : (11, [2, 1, 5, 3, 0, 9, 8, 6, 4, 10, 7]) = c := by injection hc
        refine Step1.mk rfl (StepM.pre (st0 := ⟨[(34, tmsA l), (35, iv (k : Int)), (36, tmsA (l.take (k : Int).toNat)), (38, tmA t), (39, tmsA [t]), (41, tmsA l), (42, iv (k : Int)), (43, tmsA (l.drop (k : Int).toNat)), (0, tmsA l), (3, .ptr 3 0 0 0), (5, iv (k : Int)), (40, .own 33)], [(3, .box (tmE t) 51), (33, .row tmE ([] ++ l.take (k : Int).toNat ++ [t]) 51 2)]⟩) (Imp.of (by (repeat' (first | exact True.intro | (refine And.intro ⟨_, rfl, ?_⟩ ?_; (first | exact LeV.refl _ | exact LeV.ifbT (hβ _ (by simp)) | exact LeV.toIfb _ _ | exact LeV.any _ | exact LeB.refl _ | (refine LeV.eq ?_; simp; done) | (refine LeV.eq ?_; congr 1; omega) | (refine LeV.eq ?_; dsimp only; congr 1; omega) | (refine LeV.eq (congrArg (AV.int _) ?_); omega) | exact LeV.nils _ | exact LeB.row (by assumption) | (refine LeB.eq ?_; congr 1; omega) | (refine LeB.eq ?_; congr 1; simp only [cond_true, cond_false]; omega)))))) (by (repeat' (first | exact True.intro | (refine And.intro ⟨_, rfl, ?_⟩ ?_; (first | exact LeV.refl _ | exact LeV.ifbT (hβ _ (by simp)) | exact LeV.toIfb _ _ | exact LeV.any _ | exact LeB.refl _ | (refine LeV.eq ?_; simp; done) | (refine LeV.eq ?_; congr 1; omega) | (refine LeV.eq ?_; dsimp only; congr 1; omega) | (refine LeV.eq (congrArg (AV.int _) ?_); omega) | exact LeV.nils _ | exact LeB.row (by assumption) | (refine LeB.eq ?_; congr 1; omega) | (refine LeB.eq ?_; congr 1; simp only [cond_true, cond_false]; omega))))))) ?_)
        refine StepM.imp (M_append_sl rfl rfl rfl SlK.h TiK.h (by decide) (by decide) (fun _ => rfl) (fun _ => rfl) (by first | omega | (simp; done) | (simp; omega) | (simp_all; omega)) rfl) (Imp.of (by (repeat' (first | exact True.intro | (refine And.intro ⟨_, rfl, ?_⟩ ?_; (first | exact LeV.refl _ | exact LeV.ifbT (hβ _ (by simp)) | exact LeV.toIfb _ _ | exact LeV.any _ | exact LeB.refl _ | (refine LeV.eq ?_; simp; done) | (refine LeV.eq ?_; congr 1; omega) | (refine LeV.eq ?_; dsimp only; congr 1; omega) | (refine LeV.eq (congrArg (AV.int _) ?_); omega) | exact LeV.nils _ | exact LeB.row (by assumption) | (refine LeB.eq ?_; congr 1; omega) | (refine LeB.eq ?_; congr 1; simp only [cond_true, cond_false]; omega)))))) (by (repeat' (first | exact True.intro | (refine And.intro ⟨_, rfl, ?_⟩ ?_; (first | exact LeV.refl _ | exact LeV.ifbT (hβ _ (by simp)) | exact LeV.toIfb _ _ | exact LeV.any _ | exact LeB.refl _ | (refine LeV.eq ?_; simp; done) | (refine LeV.eq ?_; congr 1; omega) | (refine LeV.eq ?_; dsimp only; congr 1; omega) | (refine LeV.eq (congrArg (AV.int _) ?_); omega) | exact LeV.nils _ | exact LeB.row (by assumption) | (refine LeB.eq ?_; congr 1; omega) | (refine LeB.eq ?_; congr 1; simp only [cond_true, cond_false]; omega)))))))
      · obtain rfl : (12, [10, 9, 8, 7, 6, 5, 4, 3, 2, 1, 0, 11]) = c := by injection hc
        refine Step1.mk rfl (StepM.pre (st0 := ⟨[(34, tmsA l), (35, iv (k : Int)), (36, tmsA (l.take (k : Int).toNat)), (38, tmA t), (39, tmsA [t]), (41, tmsA l), (42, iv (k : Int)), (43, tmsA (l.drop (k : Int).toNat)), (0, tmsA l), (3, .ptr 3 0 0 0), (5, iv (k : Int)), (44, .own 33)], [(3, .box (tmE t) 51), (33, .row tmE ([] ++ l.take (k : Int).toNat ++ [t] ++ l.drop (k : Int).toNat) 51 2)]⟩) (Imp.of (by (repeat' (first | exact True.intro | (refine And.intro ⟨_, rfl, ?_⟩ ?_; (first | exact LeV.refl _ | exact LeV.ifbT (hβ _ (by simp)) | exact LeV.toIfb _ _ | exact LeV.any _ | exact LeB.refl _ | (refine LeV.eq ?_; simp; done) | (refine LeV.eq ?_; congr 1; omega) | (refine LeV.eq ?_; dsimp only; congr 1; omega) | (refine LeV.eq (congrArg (AV.int _) ?_); omega) | exact LeV.nils _ | exact LeB.row (by assumption) | (refine LeB.eq ?_; congr 1; omega) | (refine LeB.eq ?_; congr 1; simp only [cond_true, cond_false]; omega)))))) (by (repeat' (first | exact True.intro | (refine And.intro ⟨_, rfl, ?_⟩ ?_; (first | exact LeV.refl _ | exact LeV.ifbT (hβ _ (by simp)) | exact LeV.toIfb _ _ | exact LeV.any _ | exact LeB.refl _ | (refine LeV.eq ?_; simp; done) | (refine LeV.eq ?_; congr 1; omega) | (refine LeV.eq ?_; dsimp only; congr 1; omega) | (refine LeV.eq (congrArg (AV.int _) ?_); omega) | exact LeV.nils _ | exact LeB.row (by assumption) | (refine LeB.eq ?_; congr 1; omega) | (refine LeB.eq ?_; congr 1; simp only [cond_true, cond_false]; omega))))))) ?_)
        refine StepM.imp (StepA.toM (Pur.stepA (P_assign rfl)) rfl rfl) (Imp.of (by (repeat' (first | exact True.intro | (refine And.intro ⟨_, rfl, ?_⟩ ?_; (first | exact LeV.refl _ | exact LeV.ifbT (hβ _ (by simp)) | exact LeV.toIfb _ _ | exact LeV.any _ | exact LeB.refl _ | (refine LeV.eq ?_; simp; done) | (refine LeV.eq ?_; congr 1; omega) | (refine LeV.eq ?_; dsimp only; congr 1; omega) | (refine LeV.eq (congrArg (AV.int _) ?_); omega) | exact LeV.nils _ | exact LeB.row (by assumption) | (refine LeB.eq ?_; congr 1; omega) | (refine LeB.eq ?_; congr 1; simp only [cond_true, cond_false]; omega)))))) (by (repeat' (first | exact True.intro | (refine And.intro ⟨_, rfl, ?_⟩ ?_; (first | exact LeV.refl _ | exact LeV.ifbT (hβ _ (by simp)) | exact LeV.toIfb _ _ | exact LeV.any _ | exact LeB.refl _ | (refine LeV.eq ?_; simp; done) | (refine LeV.eq ?_; congr 1; omega) | (refine LeV.eq ?_; dsimp only; congr 1; omega) | (refine LeV.eq (congrArg (AV.int _) ?_); omega) | exact LeV.nils _ | exact LeB.row (by assumption) | (refine LeB.eq ?_; congr 1; omega) | (refine LeB.eq ?_; congr 1; simp only [cond_true, cond_false]; omega)))))))
      · exact absurd hc (by simp)
    refine X.ret ?_
    refine RetQ.imp (Imp.freeze (k := 33) rfl) ?_
    refine RetQ.ret (.one (.tmp rfl (LeV.eq ?_)))
    all_goals (exact congrArg tmsA hV)
end Go.Rse
