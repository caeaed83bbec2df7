/-
  Walks: runs of numbers, with a maker.
-/
import Derived.Test.YtmbjfeaipblfcaaGreatDoorTRun2
import Derived.Test.YtmbjfeaipblfcaaGreatDoorTRse38
namespace Go.Rse
open Go Go.Proofs
set_option linter.unusedVariables false
set_option linter.unusedSimpArgs false
attribute [local irreducible] Pur StepA StepM Ex X ExG Fn Imp LeV LeB FnO It YStep
attribute [local irreducible] abvK roA stp
theorem C_tactuskit_Above (m : Mn) (v : Int) (h0 : 1 ≤ v) (h8 : v ≤ 1000000) : Fn Tryz.prog 148 [mnA m, iv v] (.bool (abvK m v)) := by
  refine Fn.go Tryz.func148 Tryz.ntmps148 (fun g w d => ?_)
  refine X.seq ?_
  refine X.region ?_
  refine Ex.ba ?_
  refine Ex.pu ?_
  refine Ex.nil ?_
  refine X.seq ?_
  refine X.seq ?_
  refine X.region ?_
  iterate 3 refine Ex.pu ?_
  refine Ex.nil ?_
  refine X.block ?_
  refine X.lp (ι := Nat) (fun (k : Nat) => [(1, iv v), (2, .ptr 2 0 0 0), (5, iv (v - 1 - (k : Int)))]) (fun (k : Nat) => [(2, .box (mnE m) 23)]) (fun (k : Nat) => (k : Int) ≤ v - 1 ∧ ∀ u, v - 1 - (k : Int) < u → u < v → ¬ m.p u = 3) (fun (k : Nat) => v.toNat - k) 0 (fun k hk => ?_) (hJ := by
    exact ⟨by omega, fun u h1 h2 => by omega⟩)
  obtain ⟨hk1, hk2⟩ := hk
  refine X.seq ?_
  refine X.seq ?_
  refine X.region ?_
  iterate 2 refine Ex.pu ?_
  refine Ex.nil ?_
  refine X.cd rfl (fun hc1 => ?_) (fun hc1 => ?_)
  · refine X.skip ?_
    refine X.seq ?_
    refine X.block ?_
    refine X.seq ?_
    refine X.region ?_
    iterate 2 refine Ex.pu ?_
    refine Ex.ca (C_tactuskit_Parts m (v - 1 - (k : Int))) ?_
    refine Ex.pu ?_
    refine Ex.nil ?_
    refine X.cd rfl (fun hc2 => ?_) (fun hc2 => ?_)
    · refine X.seq ?_
      refine X.region ?_
      refine Ex.pu ?_
      refine Ex.nil ?_
      refine X.ret ?_
      refine RetQ.ret (.one (.tmp rfl (LeV.eq ?_)))
      all_goals (congr 1; exact (abvK_yes (by omega) (by omega) hc2).symm)
    refine X.skip ?_
    refine X.region ?_
    iterate 3 refine Ex.pu ?_
    refine Ex.nil ?_
    refine X.bk (k + 1) (hJ := by
      refine ⟨by omega, fun u h1 h2 => ?_⟩
      by_cases e : u = v - 1 - (k : Int)
      · rw [e]; exact hc2
      · exact hk2 u (by omega) h2)
  · refine X.exit ?_
    refine X.seq ?_
    refine X.region ?_
    refine Ex.pu ?_
    refine Ex.nil ?_
    refine X.ret ?_
    refine RetQ.ret (.one (.tmp rfl (LeV.eq ?_)))
    all_goals (congr 1; exact (abvK_no fun u h1 h2 => hk2 u (by omega) (by omega)).symm)
theorem C_tactuskit_maker_put (m : Mn) (l : List Sg) (p : Int) (o1 d1 : Bool) (s : Sg) (b : Bool) (hl : l.length ≤ 2000) : FnO Tryz.prog 147 [.ptr 2000000 0 0 0, sgA s, .bool b] [(2000000, .box [.str ⟨#[]⟩, .own 2000010, iv m.Max, iv m.Mod, iv m.Tem, iv m.Pro, iv p, .bool o1, .bool d1] 171), (2000010, .row sgE (l) 49 17)] [2000000] (.tup []) [(2000000, .box [.str ⟨#[]⟩, .own 2000011, iv m.Max, iv m.Mod, iv m.Tem, iv m.Pro, iv p, .bool o1, .bool b] 171), (2000011, .row sgE (l ++ [s]) 49 17)] := by
  refine FnO.introX (ts := [(0, .ptr 2000000 0 0 0), (1, sgA s), (2, .bool b)]) (rv := []) (n := 22) (cs := [.ptr 2000000 0 0 0]) (by kernel_rfl) Tryz.func147 rfl Tryz.ntmps147 rfl rfl (by simp) rfl rfl rfl rfl (fun g w d vs => ?_)
  refine X.seq ?_
  refine X.region ?_
  refine Ex.ba ?_
  refine Ex.nil ?_
  refine X.seq ?_
  refine X.drawQ [⟨0, 6, .ptr 2000000 0 0 0, []⟩, ⟨1, 7, .ptr 2000000 0 0 0, []⟩, ⟨2, 8, .ptr 2000000 0 0 0, [1]⟩, ⟨3, 9, .ptr 2000000 0 0 0, [1, 2]⟩, ⟨4, 10, .ptr 2000000 0 0 1, [1, 2, 3]⟩, ⟨6, 12, sgA s, []⟩, ⟨7, 13, sgsA [s], [6]⟩, ⟨9, 15, .ptr 2000000 0 0 0, [8, 7, 6, 5, 4, 3, 2, 1, 0]⟩, ⟨10, 16, .ptr 2000000 0 0 0, [8, 7, 6, 5, 4, 3, 2, 1, 0, 9]⟩, ⟨11, 17, .ptr 2000000 0 0 1, [9, 8, 7, 6, 5, 4, 3, 2, 1, 0, 10]⟩] [(5, [1, 2, 3, 4]), (8, [1, 2, 3, 6, 4, 7, 5]), (12, [9, 10, 7, 6, 5, 4, 3, 2, 1, 0, 8, 11])] (fun j => match j with | 0 => ⟨[(0, .ptr 2000000 0 0 0), (2, .bool b), (4, .ptr 4 0 0 0)], [(1000001, .hold vs [.ptr 2000000 0 0 0]), (2000000, .box [.str ⟨#[]⟩, .own 2000010, iv m.Max, iv m.Mod, iv m.Tem, iv m.Pro, iv p, .bool o1, .bool d1] 171), (2000010, .row sgE (l) 49 17), (4, .box (sgE s) 49)]⟩ | 1 => ⟨[(0, .ptr 2000000 0 0 0), (2, .bool b), (4, .ptr 4 0 0 0), (11, .own 2000010)], [(1000001, .hold vs [.ptr 2000000 0 0 0]), (2000000, .box [.str ⟨#[]⟩, .own 2000010, iv m.Max, iv m.Mod, iv m.Tem, iv m.Pro, iv p, .bool o1, .bool d1] 171), (2000010, .row sgE (l) 49 17), (4, .box (sgE s) 49)]⟩ | 2 => ⟨[(0, .ptr 2000000 0 0 0), (2, .bool b), (4, .ptr 4 0 0 0), (14, .own 2000010)], [(1000001, .hold vs [.ptr 2000000 0 0 0]), (2000000, .box [.str ⟨#[]⟩, .any, iv m.Max, iv m.Mod, iv m.Tem, iv m.Pro, iv p, .bool o1, .bool d1] 171), (2000010, .row sgE (l ++ [s]) 49 17), (4, .box (sgE s) 49)]⟩ | _ => ⟨[(0, .ptr 2000000 0 0 0), (2, .bool b), (4, .ptr 4 0 0 0)], [(1000001, .hold vs [.ptr 2000000 0 0 0]), (2000000, .box [.str ⟨#[]⟩, .own 2000010, iv m.Max, iv m.Mod, iv m.Tem, iv m.Pro, iv p, .bool o1, .bool d1] 171), (2000010, .row sgE (l ++ [s]) 49 17), (4, .box (sgE s) 49)]⟩) mo (by kernel_rfl) (Imp.SP0 (Imp.au)) (fun j hj => ?_) (fun j c hc β hβ => ?_) ?_
  · rcases j with _ | _ | _ | _ | j
    · refine ⟨.inr ⟨_, rfl, rfl, rfl, rfl, Pur.stepA Pur.au⟩, ?_⟩
      refine ⟨.inr ⟨_, rfl, rfl, rfl, rfl, Pur.stepA Pur.au⟩, ?_⟩
      refine ⟨.inr ⟨_, rfl, rfl, rfl, rfl, Pur.stepA (P_nilCheck_ptr rfl)⟩, ?_⟩
      refine ⟨.inr ⟨_, rfl, rfl, rfl, rfl, Pur.stepA (P_fieldAddr_pt rfl rfl)⟩, ?_⟩
      refine ⟨.inr ⟨_, rfl, rfl, rfl, rfl, Pur.stepA (P_fieldAddr_pt rfl rfl)⟩, ?_⟩
      refine ⟨.inr ⟨_, rfl, rfl, rfl, rfl, Pur.stepA Pur.au⟩, ?_⟩
      refine ⟨.inr ⟨_, rfl, rfl, rfl, rfl, A_buildSliceF (enc := sgE) (l := [s]) sl24 ty49 ze49 (by decide) rfl rfl rfl rfl (by decide) (by decide) (fun _ => rfl) rfl⟩, ?_⟩
      refine ⟨.inl rfl, ?_⟩
      refine ⟨.inl rfl, ?_⟩
      refine ⟨.inl rfl, ?_⟩
      exact True.intro
    · refine ⟨.inr ⟨_, rfl, rfl, rfl, rfl, Pur.stepA Pur.au⟩, ?_⟩
      refine ⟨.inl rfl, ?_⟩
      refine ⟨.inl rfl, ?_⟩
      refine ⟨.inl rfl, ?_⟩
      refine ⟨.inl rfl, ?_⟩
      refine ⟨.inr ⟨_, rfl, rfl, rfl, rfl, Pur.stepA Pur.au⟩, ?_⟩
      refine ⟨.inr ⟨_, rfl, rfl, rfl, rfl, A_buildSliceF (enc := sgE) (l := [s]) sl24 ty49 ze49 (by decide) rfl rfl rfl rfl (by decide) (by decide) (fun _ => rfl) rfl⟩, ?_⟩
      refine ⟨.inl rfl, ?_⟩
      refine ⟨.inl rfl, ?_⟩
      refine ⟨.inl rfl, ?_⟩
      exact True.intro
    · refine ⟨.inr ⟨_, rfl, rfl, rfl, rfl, Pur.stepA Pur.au⟩, ?_⟩
      refine ⟨.inl rfl, ?_⟩
      refine ⟨.inl rfl, ?_⟩
      refine ⟨.inl rfl, ?_⟩
      refine ⟨.inl rfl, ?_⟩
      refine ⟨.inl rfl, ?_⟩
      refine ⟨.inl rfl, ?_⟩
      refine ⟨.inr ⟨_, rfl, rfl, rfl, rfl, Pur.stepA (P_nilCheck_ptr rfl)⟩, ?_⟩
      refine ⟨.inr ⟨_, rfl, rfl, rfl, rfl, Pur.stepA (P_fieldAddr_pt rfl rfl)⟩, ?_⟩
      refine ⟨.inr ⟨_, rfl, rfl, rfl, rfl, Pur.stepA (P_fieldAddr_pt rfl rfl)⟩, ?_⟩
      exact True.intro
    · refine ⟨.inl rfl, ?_⟩
      refine ⟨.inl rfl, ?_⟩
      refine ⟨.inl rfl, ?_⟩
      refine ⟨.inl rfl, ?_⟩
      refine ⟨.inl rfl, ?_⟩
      refine ⟨.inl rfl, ?_⟩
      refine ⟨.inl rfl, ?_⟩
      refine ⟨.inl rfl, ?_⟩
      refine ⟨.inl rfl, ?_⟩
      refine ⟨.inl rfl, ?_⟩
      exact True.intro
    · exact absurd (show j + 4 ≤ 3 from hj) (by omega)
  · rcases j with _ | _ | _ | j
    · obtain rfl : (5, [1, 2, 3, 4]) = c := by injection hc
      refine Step1.mk rfl (StepM.pre (st0 := ⟨[(6, .ifb (β 0) (.ptr 2000000 0 0 0)), (7, .ptr 2000000 0 0 0), (8, .ptr 2000000 0 0 0), (9, .ptr 2000000 0 0 0), (10, .ptr 2000000 0 0 1), (12, .ifb (β 6) (sgA s)), (13, .ifb (β 7) (sgsA [s])), (15, .ifb (β 9) (.ptr 2000000 0 0 0)), (16, .ifb (β 10) (.ptr 2000000 0 0 0)), (17, .ifb (β 11) (.ptr 2000000 0 0 1)), (0, .ptr 2000000 0 0 0), (2, .bool b), (4, .ptr 4 0 0 0)], [(1000001, .hold vs [.ptr 2000000 0 0 0]), (2000000, .box [.str ⟨#[]⟩, .own 2000010, iv m.Max, iv m.Mod, iv m.Tem, iv m.Pro, iv p, .bool o1, .bool d1] 171), (2000010, .row sgE (l) 49 17), (4, .box (sgE s) 49)]⟩) (Imp.of (by (repeat' (first | exact True.intro | (refine And.intro ⟨_, rfl, ?_⟩ ?_; (first | exact LeV.refl _ | exact LeV.ifbT (hβ _ (by simp)) | exact LeV.toIfb _ _ | exact LeV.any _ | exact LeB.refl _ | (refine LeV.eq ?_; simp; done) | (refine LeV.eq ?_; congr 1; omega) | (refine LeV.eq ?_; dsimp only; congr 1; omega) | (refine LeV.eq (congrArg (AV.int _) ?_); omega) | exact LeV.nils _ | exact LeB.row (by assumption) | (refine LeB.eq ?_; congr 1; omega) | (refine LeB.eq ?_; congr 1; simp only [cond_true, cond_false]; omega)))))) (by (repeat' (first | exact True.intro | (refine And.intro ⟨_, rfl, ?_⟩ ?_; (first | exact LeV.refl _ | exact LeV.ifbT (hβ _ (by simp)) | exact LeV.toIfb _ _ | exact LeV.any _ | exact LeB.refl _ | (refine LeV.eq ?_; simp; done) | (refine LeV.eq ?_; congr 1; omega) | (refine LeV.eq ?_; dsimp only; congr 1; omega) | (refine LeV.eq (congrArg (AV.int _) ?_); omega) | exact LeV.nils _ | exact LeB.row (by assumption) | (refine LeB.eq ?_; congr 1; omega) | (refine LeB.eq ?_; congr 1; simp only [cond_true, cond_false]; omega))))))) ?_)
      refine StepM.imp (StepA.toM (Pur.stepA Pur.au) rfl rfl) (Imp.of (by (repeat' (first | exact True.intro | (refine And.intro ⟨_, rfl, ?_⟩ ?_; (first | exact LeV.refl _ | exact LeV.ifbT (hβ _ (by simp)) | exact LeV.toIfb _ _ | exact LeV.any _ | exact LeB.refl _ | (refine LeV.eq ?_; simp; done) | (refine LeV.eq ?_; congr 1; omega) | (refine LeV.eq ?_; dsimp only; congr 1; omega) | (refine LeV.eq (congrArg (AV.int _) ?_); omega) | exact LeV.nils _ | exact LeB.row (by assumption) | (refine LeB.eq ?_; congr 1; omega) | (refine LeB.eq ?_; congr 1; simp only [cond_true, cond_false]; omega)))))) (by (repeat' (first | exact True.intro | (refine And.intro ⟨_, rfl, ?_⟩ ?_; (first | exact LeV.refl _ | exact LeV.ifbT (hβ _ (by simp)) | exact LeV.toIfb _ _ | exact LeV.any _ | exact LeB.refl _ | (refine LeV.eq ?_; simp; done) | (refine LeV.eq ?_; congr 1; omega) | (refine LeV.eq ?_; dsimp only; congr 1; omega) | (refine LeV.eq (congrArg (AV.int _) ?_); omega) | exact LeV.nils _ | exact LeB.row (by assumption) | (refine LeB.eq ?_; congr 1; omega) | (refine LeB.eq ?_; congr 1; simp only [cond_true, cond_false]; omega)))))))
    · obtain rfl : (8, [1, 2, 3, 6, 4, 7, 5]) = c := by injection hc
      refine Step1.mk rfl (StepM.pre (st0 := ⟨[(6, .ifb (β 0) (.ptr 2000000 0 0 0)), (7, .ptr 2000000 0 0 0), (8, .ptr 2000000 0 0 0), (9, .ptr 2000000 0 0 0), (10, .ptr 2000000 0 0 1), (12, sgA s), (13, sgsA [s]), (15, .ifb (β 9) (.ptr 2000000 0 0 0)), (16, .ifb (β 10) (.ptr 2000000 0 0 0)), (17, .ifb (β 11) (.ptr 2000000 0 0 1)), (0, .ptr 2000000 0 0 0), (2, .bool b), (4, .ptr 4 0 0 0), (11, .own 2000010)], [(1000001, .hold vs [.ptr 2000000 0 0 0]), (2000000, .box [.str ⟨#[]⟩, .own 2000010, iv m.Max, iv m.Mod, iv m.Tem, iv m.Pro, iv p, .bool o1, .bool d1] 171), (2000010, .row sgE (l) 49 17), (4, .box (sgE s) 49)]⟩) (Imp.of (by (repeat' (first | exact True.intro | (refine And.intro ⟨_, rfl, ?_⟩ ?_; (first | exact LeV.refl _ | exact LeV.ifbT (hβ _ (by simp)) | exact LeV.toIfb _ _ | exact LeV.any _ | exact LeB.refl _ | (refine LeV.eq ?_; simp; done) | (refine LeV.eq ?_; congr 1; omega) | (refine LeV.eq ?_; dsimp only; congr 1; omega) | (refine LeV.eq (congrArg (AV.int _) ?_); omega) | exact LeV.nils _ | exact LeB.row (by assumption) | (refine LeB.eq ?_; congr 1; omega) | (refine LeB.eq ?_; congr 1; simp only [cond_true, cond_false]; omega)))))) (by (repeat' (first | exact True.intro | (refine And.intro ⟨_, rfl, ?_⟩ ?_; (first | exact LeV.refl _ | exact LeV.ifbT (hβ _ (by simp)) | exact LeV.toIfb _ _ | exact LeV.any _ | exact LeB.refl _ | (refine LeV.eq ?_; simp; done) | (refine LeV.eq ?_; congr 1; omega) | (refine LeV.eq ?_; dsimp only; congr 1; omega) | (refine LeV.eq (congrArg (AV.int _) ?_); omega) | exact LeV.nils _ | exact LeB.row (by assumption) | (refine LeB.eq ?_; congr 1; omega) | (refine LeB.eq ?_; congr 1; simp only [cond_true, cond_false]; omega))))))) ?_)
      refine StepM.imp (M_append_sl (l := l) (l2 := [s]) rfl rfl rfl sl24 ti49 (by decide) (by decide) (fun _ => rfl) (fun _ => rfl) (by simp; omega) rfl) (Imp.of (by (repeat' (first | exact True.intro | (refine And.intro ⟨_, rfl, ?_⟩ ?_; (first | exact LeV.refl _ | exact LeV.ifbT (hβ _ (by simp)) | exact LeV.toIfb _ _ | exact LeV.any _ | exact LeB.refl _ | (refine LeV.eq ?_; simp; done) | (refine LeV.eq ?_; congr 1; omega) | (refine LeV.eq ?_; dsimp only; congr 1; omega) | (refine LeV.eq (congrArg (AV.int _) ?_); omega) | exact LeV.nils _ | exact LeB.row (by assumption) | (refine LeB.eq ?_; congr 1; omega) | (refine LeB.eq ?_; congr 1; simp only [cond_true, cond_false]; omega)))))) (by (repeat' (first | exact True.intro | (refine And.intro ⟨_, rfl, ?_⟩ ?_; (first | exact LeV.refl _ | exact LeV.ifbT (hβ _ (by simp)) | exact LeV.toIfb _ _ | exact LeV.any _ | exact LeB.refl _ | (refine LeV.eq ?_; simp; done) | (refine LeV.eq ?_; congr 1; omega) | (refine LeV.eq ?_; dsimp only; congr 1; omega) | (refine LeV.eq (congrArg (AV.int _) ?_); omega) | exact LeV.nils _ | exact LeB.row (by assumption) | (refine LeB.eq ?_; congr 1; omega) | (refine LeB.eq ?_; congr 1; simp only [cond_true, cond_false]; omega)))))))
    · obtain rfl : (12, [9, 10, 7, 6, 5, 4, 3, 2, 1, 0, 8, 11]) = c := by injection hc
      refine Step1.mk rfl (StepM.pre (st0 := ⟨[(6, .ptr 2000000 0 0 0), (7, .ptr 2000000 0 0 0), (8, .ptr 2000000 0 0 0), (9, .ptr 2000000 0 0 0), (10, .ptr 2000000 0 0 1), (12, sgA s), (13, sgsA [s]), (15, .ptr 2000000 0 0 0), (16, .ptr 2000000 0 0 0), (17, .ptr 2000000 0 0 1), (0, .ptr 2000000 0 0 0), (2, .bool b), (4, .ptr 4 0 0 0), (14, .own 2000010)], [(1000001, .hold vs [.ptr 2000000 0 0 0]), (2000000, .box [.str ⟨#[]⟩, .any, iv m.Max, iv m.Mod, iv m.Tem, iv m.Pro, iv p, .bool o1, .bool d1] 171), (2000010, .row sgE (l ++ [s]) 49 17), (4, .box (sgE s) 49)]⟩) (Imp.of (by (repeat' (first | exact True.intro | (refine And.intro ⟨_, rfl, ?_⟩ ?_; (first | exact LeV.refl _ | exact LeV.ifbT (hβ _ (by simp)) | exact LeV.toIfb _ _ | exact LeV.any _ | exact LeB.refl _ | (refine LeV.eq ?_; simp; done) | (refine LeV.eq ?_; congr 1; omega) | (refine LeV.eq ?_; dsimp only; congr 1; omega) | (refine LeV.eq (congrArg (AV.int _) ?_); omega) | exact LeV.nils _ | exact LeB.row (by assumption) | (refine LeB.eq ?_; congr 1; omega) | (refine LeB.eq ?_; congr 1; simp only [cond_true, cond_false]; omega)))))) (by (repeat' (first | exact True.intro | (refine And.intro ⟨_, rfl, ?_⟩ ?_; (first | exact LeV.refl _ | exact LeV.ifbT (hβ _ (by simp)) | exact LeV.toIfb _ _ | exact LeV.any _ | exact LeB.refl _ | (refine LeV.eq ?_; simp; done) | (refine LeV.eq ?_; congr 1; omega) | (refine LeV.eq ?_; dsimp only; congr 1; omega) | (refine LeV.eq (congrArg (AV.int _) ?_); omega) | exact LeV.nils _ | exact LeB.row (by assumption) | (refine LeB.eq ?_; congr 1; omega) | (refine LeB.eq ?_; congr 1; simp only [cond_true, cond_false]; omega))))))) ?_)
      refine StepM.imp (M_store rfl rfl rfl rfl ty24 (ltB rfl)) (Imp.of (by (repeat' (first | exact True.intro | (refine And.intro ⟨_, rfl, ?_⟩ ?_; (first | exact LeV.refl _ | exact LeV.ifbT (hβ _ (by simp)) | exact LeV.toIfb _ _ | exact LeV.any _ | exact LeB.refl _ | (refine LeV.eq ?_; simp; done) | (refine LeV.eq ?_; congr 1; omega) | (refine LeV.eq ?_; dsimp only; congr 1; omega) | (refine LeV.eq (congrArg (AV.int _) ?_); omega) | exact LeV.nils _ | exact LeB.row (by assumption) | (refine LeB.eq ?_; congr 1; omega) | (refine LeB.eq ?_; congr 1; simp only [cond_true, cond_false]; omega)))))) (by (repeat' (first | exact True.intro | (refine And.intro ⟨_, rfl, ?_⟩ ?_; (first | exact LeV.refl _ | exact LeV.ifbT (hβ _ (by simp)) | exact LeV.toIfb _ _ | exact LeV.any _ | exact LeB.refl _ | (refine LeV.eq ?_; simp; done) | (refine LeV.eq ?_; congr 1; omega) | (refine LeV.eq ?_; dsimp only; congr 1; omega) | (refine LeV.eq (congrArg (AV.int _) ?_); omega) | exact LeV.nils _ | exact LeB.row (by assumption) | (refine LeB.eq ?_; congr 1; omega) | (refine LeB.eq ?_; congr 1; simp only [cond_true, cond_false]; omega)))))))
    · exact absurd hc (by simp)
  refine X.region ?_
  iterate 2 refine Ex.pu ?_
  refine Ex.pu ?_ (hs := by exact P_nilCheck_ptr rfl)
  refine Ex.pu ?_
  refine Ex.mo ?_
  refine Ex.nil ?_
  refine RetQXI (Imp.mv 2000010 2000011 rfl rfl) ?_
  refine RetQX.mk [] [] (.inl rfl) (.many (by decide) .nil)
  all_goals (rfl)
theorem C_tactuskit_maker_step (m : Mn) (l : List Sg) (p n : Int) (o1 d1 : Bool) (hp : -4 ≤ p ∧ p ≤ 12) (hn : 0 ≤ n ∧ n ≤ 1000000000) : FnO Tryz.prog 191 [.ptr 2000000 0 0 0, iv n] [(2000000, .box [.str ⟨#[]⟩, .own 2000010, iv m.Max, iv m.Mod, iv m.Tem, iv m.Pro, iv p, .bool o1, .bool d1] 171), (2000010, .row sgE (l) 49 17)] [2000000, 2000010] (iv (stp p n)) [(2000000, .box [.str ⟨#[]⟩, .own 2000010, iv m.Max, iv m.Mod, iv m.Tem, iv m.Pro, iv (stp p n), .bool o1, .bool d1] 171), (2000010, .row sgE (l) 49 17)] := by
  refine FnO.introX (ts := [(0, .ptr 2000000 0 0 0), (1, iv n)]) (rv := [.tmp 4]) (n := 35) (cs := [.ptr 2000000 0 0 0, .own 2000010]) (by kernel_rfl) Tryz.func191 rfl Tryz.ntmps191 rfl rfl (by simp) rfl rfl rfl rfl (fun g w d vs => ?_)
  refine X.seq ?_
  refine X.region ?_
  refine Ex.pu ?_
  refine Ex.nil ?_
  refine X.seq ?_
  refine X.drawQ [⟨0, 5, .ptr 2000000 0 0 0, []⟩, ⟨1, 6, .ptr 2000000 0 0 0, []⟩, ⟨2, 7, .ptr 2000000 0 0 0, [1]⟩, ⟨3, 8, .ptr 2000000 0 0 6, [1, 2]⟩, ⟨4, 9, iv p, [1, 2, 3]⟩, ⟨5, 10, iv n, []⟩, ⟨6, 11, iv (n % 5), [5]⟩, ⟨7, 12, iv (p + n % 5), [1, 2, 5, 3, 6, 4]⟩, ⟨8, 13, iv (p + n % 5 - 2), [1, 2, 5, 3, 6, 4, 7]⟩, ⟨9, 14, .ptr 2000000 0 0 0, [8, 7, 6, 5, 4, 3, 2, 1, 0]⟩, ⟨10, 15, .ptr 2000000 0 0 6, [8, 7, 6, 5, 4, 3, 2, 1, 0, 9]⟩] [(11, [9, 7, 5, 4, 3, 2, 1, 0, 6, 8, 10])] (fun j => match j with | 0 => ⟨[(0, .ptr 2000000 0 0 0), (1, iv n)], [(1000001, .hold vs [.ptr 2000000 0 0 0, .own 2000010]), (2000000, .box [.str ⟨#[]⟩, .own 2000010, iv m.Max, iv m.Mod, iv m.Tem, iv m.Pro, iv p, .bool o1, .bool d1] 171), (2000010, .row sgE (l) 49 17)]⟩ | _ => ⟨[(0, .ptr 2000000 0 0 0), (1, iv n)], [(1000001, .hold vs [.ptr 2000000 0 0 0, .own 2000010]), (2000000, .box [.str ⟨#[]⟩, .own 2000010, iv m.Max, iv m.Mod, iv m.Tem, iv m.Pro, iv (p + n % 5 - 2), .bool o1, .bool d1] 171), (2000010, .row sgE (l) 49 17)]⟩) mo (by kernel_rfl) (Imp.SP0 (Imp.au)) (fun j hj => ?_) (fun j c hc β hβ => ?_) ?_
  · rcases j with _ | _ | j
    · refine ⟨.inr ⟨_, rfl, rfl, rfl, rfl, Pur.stepA Pur.au⟩, ?_⟩
      refine ⟨.inr ⟨_, rfl, rfl, rfl, rfl, Pur.stepA Pur.au⟩, ?_⟩
      refine ⟨.inr ⟨_, rfl, rfl, rfl, rfl, Pur.stepA (P_nilCheck_ptr rfl)⟩, ?_⟩
      refine ⟨.inr ⟨_, rfl, rfl, rfl, rfl, Pur.stepA (P_fieldAddr_pt rfl rfl)⟩, ?_⟩
      refine ⟨.inr ⟨_, rfl, rfl, rfl, rfl, Pur.stepA Pur.au⟩, ?_⟩
      refine ⟨.inr ⟨_, rfl, rfl, rfl, rfl, Pur.stepA Pur.au⟩, ?_⟩
      refine ⟨.inr ⟨_, rfl, rfl, rfl, rfl, A_call rfl rfl rfl (LeL.refl _) (C_tactuskit_Mod n 5 (by omega) (by omega))⟩, ?_⟩
      refine ⟨.inr ⟨_, rfl, rfl, rfl, rfl, Pur.stepA Pur.au⟩, ?_⟩
      refine ⟨.inr ⟨_, rfl, rfl, rfl, rfl, Pur.stepA Pur.au⟩, ?_⟩
      refine ⟨.inr ⟨_, rfl, rfl, rfl, rfl, Pur.stepA (P_nilCheck_ptr rfl)⟩, ?_⟩
      refine ⟨.inr ⟨_, rfl, rfl, rfl, rfl, Pur.stepA (P_fieldAddr_pt rfl rfl)⟩, ?_⟩
      exact True.intro
    · refine ⟨.inl rfl, ?_⟩
      refine ⟨.inl rfl, ?_⟩
      refine ⟨.inl rfl, ?_⟩
      refine ⟨.inl rfl, ?_⟩
      refine ⟨.inl rfl, ?_⟩
      refine ⟨.inl rfl, ?_⟩
      refine ⟨.inl rfl, ?_⟩
      refine ⟨.inl rfl, ?_⟩
      refine ⟨.inl rfl, ?_⟩
      refine ⟨.inl rfl, ?_⟩
      refine ⟨.inl rfl, ?_⟩
      exact True.intro
    · exact absurd (show j + 2 ≤ 1 from hj) (by omega)
  · rcases j with _ | j
    · obtain rfl : (11, [9, 7, 5, 4, 3, 2, 1, 0, 6, 8, 10]) = c := by injection hc
      refine Step1.mk rfl (StepM.pre (st0 := ⟨[(5, .ptr 2000000 0 0 0), (6, .ptr 2000000 0 0 0), (7, .ptr 2000000 0 0 0), (8, .ptr 2000000 0 0 6), (9, iv p), (10, iv n), (11, iv (n % 5)), (12, iv (p + n % 5)), (13, iv (p + n % 5 - 2)), (14, .ptr 2000000 0 0 0), (15, .ptr 2000000 0 0 6), (0, .ptr 2000000 0 0 0), (1, iv n)], [(1000001, .hold vs [.ptr 2000000 0 0 0, .own 2000010]), (2000000, .box [.str ⟨#[]⟩, .own 2000010, iv m.Max, iv m.Mod, iv m.Tem, iv m.Pro, iv p, .bool o1, .bool d1] 171), (2000010, .row sgE (l) 49 17)]⟩) (Imp.of (by (repeat' (first | exact True.intro | (refine And.intro ⟨_, rfl, ?_⟩ ?_; (first | exact LeV.refl _ | exact LeV.ifbT (hβ _ (by simp)) | exact LeV.toIfb _ _ | exact LeV.any _ | exact LeB.refl _ | (refine LeV.eq ?_; simp; done) | (refine LeV.eq ?_; congr 1; omega) | (refine LeV.eq ?_; dsimp only; congr 1; omega) | (refine LeV.eq (congrArg (AV.int _) ?_); omega) | exact LeV.nils _ | exact LeB.row (by assumption) | (refine LeB.eq ?_; congr 1; omega) | (refine LeB.eq ?_; congr 1; simp only [cond_true, cond_false]; omega)))))) (by (repeat' (first | exact True.intro | (refine And.intro ⟨_, rfl, ?_⟩ ?_; (first | exact LeV.refl _ | exact LeV.ifbT (hβ _ (by simp)) | exact LeV.toIfb _ _ | exact LeV.any _ | exact LeB.refl _ | (refine LeV.eq ?_; simp; done) | (refine LeV.eq ?_; congr 1; omega) | (refine LeV.eq ?_; dsimp only; congr 1; omega) | (refine LeV.eq (congrArg (AV.int _) ?_); omega) | exact LeV.nils _ | exact LeB.row (by assumption) | (refine LeB.eq ?_; congr 1; omega) | (refine LeB.eq ?_; congr 1; simp only [cond_true, cond_false]; omega))))))) ?_)
      refine StepM.imp (M_store rfl rfl rfl rfl ty3 (ltB rfl)) (Imp.of (by (repeat' (first | exact True.intro | (refine And.intro ⟨_, rfl, ?_⟩ ?_; (first | exact LeV.refl _ | exact LeV.ifbT (hβ _ (by simp)) | exact LeV.toIfb _ _ | exact LeV.any _ | exact LeB.refl _ | (refine LeV.eq ?_; simp; done) | (refine LeV.eq ?_; congr 1; omega) | (refine LeV.eq ?_; dsimp only; congr 1; omega) | (refine LeV.eq (congrArg (AV.int _) ?_); omega) | exact LeV.nils _ | exact LeB.row (by assumption) | (refine LeB.eq ?_; congr 1; omega) | (refine LeB.eq ?_; congr 1; simp only [cond_true, cond_false]; omega)))))) (by (repeat' (first | exact True.intro | (refine And.intro ⟨_, rfl, ?_⟩ ?_; (first | exact LeV.refl _ | exact LeV.ifbT (hβ _ (by simp)) | exact LeV.toIfb _ _ | exact LeV.any _ | exact LeB.refl _ | (refine LeV.eq ?_; simp; done) | (refine LeV.eq ?_; congr 1; omega) | (refine LeV.eq ?_; dsimp only; congr 1; omega) | (refine LeV.eq (congrArg (AV.int _) ?_); omega) | exact LeV.nils _ | exact LeB.row (by assumption) | (refine LeB.eq ?_; congr 1; omega) | (refine LeB.eq ?_; congr 1; simp only [cond_true, cond_false]; omega)))))))
    · exact absurd hc (by simp)
  refine X.seq ?_
  refine X.seq ?_
  refine X.region ?_
  refine Ex.pu ?_
  refine Ex.pu ?_ (hs := by exact P_nilCheck_ptr rfl)
  iterate 3 refine Ex.pu ?_
  refine ExF.at 5 ?_
  refine ExF.pu ?_
  refine ExF.gi ?_
  refine ExF.gi ?_ (hs := by intro hgd; exact P_nilCheck_ptr rfl)
  iterate 3 refine ExF.gi ?_
  refine ExF.done ?_
  refine Ex.pu ?_
  refine Ex.nil ?_
  refine X.cd rfl (fun hc1 => ?_) (fun hc1 => ?_)
  · have hst : 4 = stp p n := stp_out hc1
    refine X.region ?_
    refine Ex.pu ?_
    refine Ex.pu ?_ (hs := by exact P_nilCheck_ptr rfl)
    refine Ex.pu ?_
    refine Ex.mo ?_
    refine Ex.nil ?_
    refine X.seq ?_
    refine X.imp (st' := ⟨[(0, .ptr 2000000 0 0 0), (1, iv n)], [(1000001, .hold vs [.ptr 2000000 0 0 0, .own 2000010]), (2000000, .box [.str ⟨#[]⟩, .own 2000010, iv m.Max, iv m.Mod, iv m.Tem, iv m.Pro, iv (stp p n), .bool o1, .bool d1] 171), (2000010, .row sgE (l) 49 17)]⟩) (Imp.of (by repeat' (first | exact True.intro | (refine And.intro ⟨_, rfl, ?_⟩ ?_; exact LeV.refl _))) (by repeat' (first | exact True.intro | (refine And.intro ⟨_, rfl, ?_⟩ ?_; (first | exact LeB.refl _ | (refine LeB.eq ?_; rw [← hst] <;> rfl)))))) ?_
    refine X.region ?_
    refine Ex.pu ?_
    refine Ex.pu ?_ (hs := by exact P_nilCheck_ptr rfl)
    iterate 3 refine Ex.pu ?_
    refine Ex.nil ?_
    refine X.ret ?_
    refine RetQX.mk [(4, iv (stp p n))] [] (.inr rfl) (.one (.tmp rfl (LeV.eq ?_)))
    all_goals (rfl)
  · have hst : p + n % 5 - 2 = stp p n := stp_in (by omega)
    refine X.skip ?_
    refine X.seq ?_
    refine X.imp (st' := ⟨[(0, .ptr 2000000 0 0 0), (1, iv n)], [(1000001, .hold vs [.ptr 2000000 0 0 0, .own 2000010]), (2000000, .box [.str ⟨#[]⟩, .own 2000010, iv m.Max, iv m.Mod, iv m.Tem, iv m.Pro, iv (stp p n), .bool o1, .bool d1] 171), (2000010, .row sgE (l) 49 17)]⟩) (Imp.of (by repeat' (first | exact True.intro | (refine And.intro ⟨_, rfl, ?_⟩ ?_; exact LeV.refl _))) (by repeat' (first | exact True.intro | (refine And.intro ⟨_, rfl, ?_⟩ ?_; (first | exact LeB.refl _ | (refine LeB.eq ?_; rw [← hst] <;> rfl)))))) ?_
    refine X.region ?_
    refine Ex.pu ?_
    refine Ex.pu ?_ (hs := by exact P_nilCheck_ptr rfl)
    iterate 3 refine Ex.pu ?_
    refine Ex.nil ?_
    refine X.ret ?_
    refine RetQX.mk [(4, iv (stp p n))] [] (.inr rfl) (.one (.tmp rfl (LeV.eq ?_)))
    all_goals (rfl)
theorem C_tactuskit_maker_note (m : Mn) (l : List Sg) (p v n : Int) (o1 d1 : Bool) (hp : -4 ≤ p ∧ p ≤ 12) (hn : 0 ≤ n ∧ n ≤ 1000000000) (hl : l.length ≤ 2000) : FnO Tryz.prog 149 [.ptr 2000000 0 0 0, iv v, iv n] [(2000000, .box [.str ⟨#[]⟩, .own 2000010, iv m.Max, iv m.Mod, iv m.Tem, iv m.Pro, iv p, .bool o1, .bool d1] 171), (2000010, .row sgE (l) 49 17)] [2000000] (.tup []) [(2000000, .box [.str ⟨#[]⟩, .own 2000011, iv m.Max, iv m.Mod, iv m.Tem, iv m.Pro, iv (stp p n), .bool o1, .bool true] 171), (2000011, .row sgE (l ++ [ntS v (stp p n) n]) 49 17)] := by
  have hg := roA_get n
  refine FnO.introX (ts := [(0, .ptr 2000000 0 0 0), (1, iv v), (2, iv n)]) (rv := []) (n := 23) (cs := [.ptr 2000000 0 0 0]) (by kernel_rfl) Tryz.func149 rfl Tryz.ntmps149 rfl rfl (by simp) rfl rfl rfl rfl (fun g w d vs => ?_)
  refine X.drawQ [⟨0, 6, .ptr 2000000 0 0 0, []⟩, ⟨1, 7, iv v, []⟩, ⟨2, 8, .ptr 2000000 0 0 0, []⟩, ⟨3, 9, iv n, []⟩, ⟨5, 11, intsA [0, 0, 0, 0, -1, 1, 2], []⟩, ⟨6, 12, iv n, []⟩, ⟨7, 13, iv (n / 5), [6]⟩, ⟨8, 14, iv (n / 5 % 7), [6, 7]⟩, ⟨9, 15, .ept intE (roA n) 0, [6, 7, 8, 5]⟩, ⟨10, 16, iv (roA n), [6, 7, 8, 5, 9]⟩, ⟨11, 17, iv n, []⟩, ⟨12, 18, iv (n / 35), [11]⟩, ⟨13, 19, iv (n / 35 % 6), [11, 12]⟩, ⟨14, 20, .bool (decide (n / 35 % 6 = 0)), [11, 12, 13]⟩, ⟨15, 21, sgA (ntS v (stp p n) n), [6, 11, 7, 12, 8, 5, 13, 9, 3, 2, 14, 10, 4, 1]⟩] [(4, [3, 2]), (16, [6, 11, 7, 12, 8, 5, 13, 9, 3, 2, 14, 10, 1, 4, 15, 0])] (fun j => match j with | 0 => ⟨[(0, .ptr 2000000 0 0 0), (1, iv v), (2, iv n)], [(1000001, .hold vs [.ptr 2000000 0 0 0]), (2000000, .box [.str ⟨#[]⟩, .own 2000010, iv m.Max, iv m.Mod, iv m.Tem, iv m.Pro, iv p, .bool o1, .bool d1] 171), (2000010, .row sgE (l) 49 17)]⟩ | 1 => ⟨[(0, .ptr 2000000 0 0 0), (1, iv v), (2, iv n), (10, iv (stp p n))], [(1000001, .hold vs [.ptr 2000000 0 0 0]), (2000000, .box [.str ⟨#[]⟩, .own 2000010, iv m.Max, iv m.Mod, iv m.Tem, iv m.Pro, iv (stp p n), .bool o1, .bool d1] 171), (2000010, .row sgE (l) 49 17)]⟩ | _ => ⟨[(0, .ptr 2000000 0 0 0), (1, iv v), (2, iv n)], [(1000001, .hold vs [.ptr 2000000 0 0 0]), (2000000, .box [.str ⟨#[]⟩, .own 2000011, iv m.Max, iv m.Mod, iv m.Tem, iv m.Pro, iv (stp p n), .bool o1, .bool true] 171), (2000011, .row sgE (l ++ [ntS v (stp p n) n]) 49 17)]⟩) mo (by kernel_rfl) (Imp.SP0 (Imp.au)) (fun j hj => ?_) (fun j c hc β hβ => ?_) ?_
  · rcases j with _ | _ | _ | j
    · refine ⟨.inr ⟨_, rfl, rfl, rfl, rfl, Pur.stepA Pur.au⟩, ?_⟩
      refine ⟨.inr ⟨_, rfl, rfl, rfl, rfl, Pur.stepA Pur.au⟩, ?_⟩
      refine ⟨.inr ⟨_, rfl, rfl, rfl, rfl, Pur.stepA Pur.au⟩, ?_⟩
      refine ⟨.inr ⟨_, rfl, rfl, rfl, rfl, Pur.stepA Pur.au⟩, ?_⟩
      refine ⟨.inr ⟨_, rfl, rfl, rfl, rfl, A_buildSliceF (enc := intE) (l := [0, 0, 0, 0, -1, 1, 2]) sl25 ty3 ze3 (by decide) rfl rfl rfl rfl (by decide) (by decide) (fun _ => rfl) rfl⟩, ?_⟩
      refine ⟨.inr ⟨_, rfl, rfl, rfl, rfl, Pur.stepA Pur.au⟩, ?_⟩
      refine ⟨.inr ⟨_, rfl, rfl, rfl, rfl, Pur.stepA Pur.au⟩, ?_⟩
      refine ⟨.inr ⟨_, rfl, rfl, rfl, rfl, Pur.stepA Pur.au⟩, ?_⟩
      refine ⟨.inr ⟨_, rfl, rfl, rfl, rfl, Pur.stepA Pur.au⟩, ?_⟩
      refine ⟨.inr ⟨_, rfl, rfl, rfl, rfl, Pur.stepA Pur.au⟩, ?_⟩
      refine ⟨.inr ⟨_, rfl, rfl, rfl, rfl, Pur.stepA Pur.au⟩, ?_⟩
      refine ⟨.inr ⟨_, rfl, rfl, rfl, rfl, Pur.stepA Pur.au⟩, ?_⟩
      refine ⟨.inr ⟨_, rfl, rfl, rfl, rfl, Pur.stepA Pur.au⟩, ?_⟩
      refine ⟨.inr ⟨_, rfl, rfl, rfl, rfl, Pur.stepA Pur.au⟩, ?_⟩
      refine ⟨.inl rfl, ?_⟩
      exact True.intro
    · refine ⟨.inr ⟨_, rfl, rfl, rfl, rfl, Pur.stepA Pur.au⟩, ?_⟩
      refine ⟨.inr ⟨_, rfl, rfl, rfl, rfl, Pur.stepA Pur.au⟩, ?_⟩
      refine ⟨.inl rfl, ?_⟩
      refine ⟨.inl rfl, ?_⟩
      refine ⟨.inr ⟨_, rfl, rfl, rfl, rfl, A_buildSliceF (enc := intE) (l := [0, 0, 0, 0, -1, 1, 2]) sl25 ty3 ze3 (by decide) rfl rfl rfl rfl (by decide) (by decide) (fun _ => rfl) rfl⟩, ?_⟩
      refine ⟨.inr ⟨_, rfl, rfl, rfl, rfl, Pur.stepA Pur.au⟩, ?_⟩
      refine ⟨.inr ⟨_, rfl, rfl, rfl, rfl, Pur.stepA Pur.au⟩, ?_⟩
      refine ⟨.inr ⟨_, rfl, rfl, rfl, rfl, Pur.stepA Pur.au⟩, ?_⟩
      refine ⟨.inr ⟨_, rfl, rfl, rfl, rfl, Pur.stepA Pur.au⟩, ?_⟩
      refine ⟨.inr ⟨_, rfl, rfl, rfl, rfl, Pur.stepA Pur.au⟩, ?_⟩
      refine ⟨.inr ⟨_, rfl, rfl, rfl, rfl, Pur.stepA Pur.au⟩, ?_⟩
      refine ⟨.inr ⟨_, rfl, rfl, rfl, rfl, Pur.stepA Pur.au⟩, ?_⟩
      refine ⟨.inr ⟨_, rfl, rfl, rfl, rfl, Pur.stepA Pur.au⟩, ?_⟩
      refine ⟨.inr ⟨_, rfl, rfl, rfl, rfl, Pur.stepA Pur.au⟩, ?_⟩
      refine ⟨.inr ⟨_, rfl, rfl, rfl, rfl, Pur.stepA Pur.au⟩, ?_⟩
      exact True.intro
    · refine ⟨.inl rfl, ?_⟩
      refine ⟨.inl rfl, ?_⟩
      refine ⟨.inl rfl, ?_⟩
      refine ⟨.inl rfl, ?_⟩
      refine ⟨.inl rfl, ?_⟩
      refine ⟨.inl rfl, ?_⟩
      refine ⟨.inl rfl, ?_⟩
      refine ⟨.inl rfl, ?_⟩
      refine ⟨.inl rfl, ?_⟩
      refine ⟨.inl rfl, ?_⟩
      refine ⟨.inl rfl, ?_⟩
      refine ⟨.inl rfl, ?_⟩
      refine ⟨.inl rfl, ?_⟩
      refine ⟨.inl rfl, ?_⟩
      refine ⟨.inl rfl, ?_⟩
      exact True.intro
    · exact absurd (show j + 3 ≤ 2 from hj) (by omega)
  · rcases j with _ | _ | j
    · obtain rfl : (4, [3, 2]) = c := by injection hc
      refine Step1.mk rfl (StepM.pre (st0 := ⟨[(6, .ifb (β 0) (.ptr 2000000 0 0 0)), (7, .ifb (β 1) (iv v)), (8, .ptr 2000000 0 0 0), (9, iv n), (11, .ifb (β 5) (intsA [0, 0, 0, 0, -1, 1, 2])), (12, .ifb (β 6) (iv n)), (13, .ifb (β 7) (iv (n / 5))), (14, .ifb (β 8) (iv (n / 5 % 7))), (15, .ifb (β 9) (.ept intE (roA n) 0)), (16, .ifb (β 10) (iv (roA n))), (17, .ifb (β 11) (iv n)), (18, .ifb (β 12) (iv (n / 35))), (19, .ifb (β 13) (iv (n / 35 % 6))), (20, .ifb (β 14) (.bool (decide (n / 35 % 6 = 0)))), (21, .ifb (β 15) (sgA (ntS v (stp p n) n))), (0, .ptr 2000000 0 0 0), (1, iv v), (2, iv n)], [(1000001, .hold vs [.ptr 2000000 0 0 0]), (2000000, .box [.str ⟨#[]⟩, .own 2000010, iv m.Max, iv m.Mod, iv m.Tem, iv m.Pro, iv p, .bool o1, .bool d1] 171), (2000010, .row sgE (l) 49 17)]⟩) (Imp.of (by (repeat' (first | exact True.intro | (refine And.intro ⟨_, rfl, ?_⟩ ?_; (first | exact LeV.refl _ | exact LeV.ifbT (hβ _ (by simp)) | exact LeV.toIfb _ _ | exact LeV.any _ | exact LeB.refl _ | (refine LeV.eq ?_; simp; done) | (refine LeV.eq ?_; congr 1; omega) | (refine LeV.eq ?_; dsimp only; congr 1; omega) | (refine LeV.eq (congrArg (AV.int _) ?_); omega) | exact LeV.nils _ | exact LeB.row (by assumption) | (refine LeB.eq ?_; congr 1; omega) | (refine LeB.eq ?_; congr 1; simp only [cond_true, cond_false]; omega)))))) (by (repeat' (first | exact True.intro | (refine And.intro ⟨_, rfl, ?_⟩ ?_; (first | exact LeV.refl _ | exact LeV.ifbT (hβ _ (by simp)) | exact LeV.toIfb _ _ | exact LeV.any _ | exact LeB.refl _ | (refine LeV.eq ?_; simp; done) | (refine LeV.eq ?_; congr 1; omega) | (refine LeV.eq ?_; dsimp only; congr 1; omega) | (refine LeV.eq (congrArg (AV.int _) ?_); omega) | exact LeV.nils _ | exact LeB.row (by assumption) | (refine LeB.eq ?_; congr 1; omega) | (refine LeB.eq ?_; congr 1; simp only [cond_true, cond_false]; omega))))))) ?_)
      refine StepM.imp (M_co [(2000000, 2000000), (2000010, 2000010)] (C_tactuskit_maker_step m l p n o1 d1 hp hn)) (Imp.of (by (repeat' (first | exact True.intro | (refine And.intro ⟨_, rfl, ?_⟩ ?_; (first | exact LeV.refl _ | exact LeV.ifbT (hβ _ (by simp)) | exact LeV.toIfb _ _ | exact LeV.any _ | exact LeB.refl _ | (refine LeV.eq ?_; simp; done) | (refine LeV.eq ?_; congr 1; omega) | (refine LeV.eq ?_; dsimp only; congr 1; omega) | (refine LeV.eq (congrArg (AV.int _) ?_); omega) | exact LeV.nils _ | exact LeB.row (by assumption) | (refine LeB.eq ?_; congr 1; omega) | (refine LeB.eq ?_; congr 1; simp only [cond_true, cond_false]; omega)))))) (by (repeat' (first | exact True.intro | (refine And.intro ⟨_, rfl, ?_⟩ ?_; (first | exact LeV.refl _ | exact LeV.ifbT (hβ _ (by simp)) | exact LeV.toIfb _ _ | exact LeV.any _ | exact LeB.refl _ | (refine LeV.eq ?_; simp; done) | (refine LeV.eq ?_; congr 1; omega) | (refine LeV.eq ?_; dsimp only; congr 1; omega) | (refine LeV.eq (congrArg (AV.int _) ?_); omega) | exact LeV.nils _ | exact LeB.row (by assumption) | (refine LeB.eq ?_; congr 1; omega) | (refine LeB.eq ?_; congr 1; simp only [cond_true, cond_false]; omega)))))))
    · obtain rfl : (16, [6, 11, 7, 12, 8, 5, 13, 9, 3, 2, 14, 10, 1, 4, 15, 0]) = c := by injection hc
      refine Step1.mk rfl (StepM.pre (st0 := ⟨[(6, .ptr 2000000 0 0 0), (7, iv v), (8, .ptr 2000000 0 0 0), (9, iv n), (11, intsA [0, 0, 0, 0, -1, 1, 2]), (12, iv n), (13, iv (n / 5)), (14, iv (n / 5 % 7)), (15, .ept intE (roA n) 0), (16, iv (roA n)), (17, iv n), (18, iv (n / 35)), (19, iv (n / 35 % 6)), (20, .bool (decide (n / 35 % 6 = 0))), (21, sgA (ntS v (stp p n) n)), (0, .ptr 2000000 0 0 0), (1, iv v), (2, iv n), (10, iv (stp p n))], [(1000001, .hold vs [.ptr 2000000 0 0 0]), (2000000, .box [.str ⟨#[]⟩, .own 2000010, iv m.Max, iv m.Mod, iv m.Tem, iv m.Pro, iv (stp p n), .bool o1, .bool d1] 171), (2000010, .row sgE (l) 49 17)]⟩) (Imp.of (by (repeat' (first | exact True.intro | (refine And.intro ⟨_, rfl, ?_⟩ ?_; (first | exact LeV.refl _ | exact LeV.ifbT (hβ _ (by simp)) | exact LeV.toIfb _ _ | exact LeV.any _ | exact LeB.refl _ | (refine LeV.eq ?_; simp; done) | (refine LeV.eq ?_; congr 1; omega) | (refine LeV.eq ?_; dsimp only; congr 1; omega) | (refine LeV.eq (congrArg (AV.int _) ?_); omega) | exact LeV.nils _ | exact LeB.row (by assumption) | (refine LeB.eq ?_; congr 1; omega) | (refine LeB.eq ?_; congr 1; simp only [cond_true, cond_false]; omega)))))) (by (repeat' (first | exact True.intro | (refine And.intro ⟨_, rfl, ?_⟩ ?_; (first | exact LeV.refl _ | exact LeV.ifbT (hβ _ (by simp)) | exact LeV.toIfb _ _ | exact LeV.any _ | exact LeB.refl _ | (refine LeV.eq ?_; simp; done) | (refine LeV.eq ?_; congr 1; omega) | (refine LeV.eq ?_; dsimp only; congr 1; omega) | (refine LeV.eq (congrArg (AV.int _) ?_); omega) | exact LeV.nils _ | exact LeB.row (by assumption) | (refine LeB.eq ?_; congr 1; omega) | (refine LeB.eq ?_; congr 1; simp only [cond_true, cond_false]; omega))))))) ?_)
      refine StepM.imp (M_co [(2000000, 2000000), (2000010, 2000010), (2000011, 2000011)] (C_tactuskit_maker_put m l (stp p n) o1 d1 (ntS v (stp p n) n) true hl)) (Imp.of (by (repeat' (first | exact True.intro | (refine And.intro ⟨_, rfl, ?_⟩ ?_; (first | exact LeV.refl _ | exact LeV.ifbT (hβ _ (by simp)) | exact LeV.toIfb _ _ | exact LeV.any _ | exact LeB.refl _ | (refine LeV.eq ?_; simp; done) | (refine LeV.eq ?_; congr 1; omega) | (refine LeV.eq ?_; dsimp only; congr 1; omega) | (refine LeV.eq (congrArg (AV.int _) ?_); omega) | exact LeV.nils _ | exact LeB.row (by assumption) | (refine LeB.eq ?_; congr 1; omega) | (refine LeB.eq ?_; congr 1; simp only [cond_true, cond_false]; omega)))))) (by (repeat' (first | exact True.intro | (refine And.intro ⟨_, rfl, ?_⟩ ?_; (first | exact LeV.refl _ | exact LeV.ifbT (hβ _ (by simp)) | exact LeV.toIfb _ _ | exact LeV.any _ | exact LeB.refl _ | (refine LeV.eq ?_; simp; done) | (refine LeV.eq ?_; congr 1; omega) | (refine LeV.eq ?_; dsimp only; congr 1; omega) | (refine LeV.eq (congrArg (AV.int _) ?_); omega) | exact LeV.nils _ | exact LeB.row (by assumption) | (refine LeB.eq ?_; congr 1; omega) | (refine LeB.eq ?_; congr 1; simp only [cond_true, cond_false]; omega)))))))
    · exact absurd hc (by simp)
  refine RetQX.mk [] [] (.inl rfl) (.many (by decide) .nil)
  all_goals (rfl)
end Go.Rse
