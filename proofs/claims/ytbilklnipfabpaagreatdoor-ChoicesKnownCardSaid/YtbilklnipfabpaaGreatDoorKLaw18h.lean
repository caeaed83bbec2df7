/-
  Walks: the statement of the chapter's examples.
-/
import Derived.Test.YtbilklnipfabpaaGreatDoorKJLaw18a
import Derived.Test.YtbilklnipfabpaaGreatDoorKJCho13
import Derived.Test.YtbilklnipfabpaaGreatDoorKJLvl16
set_option linter.unusedSimpArgs false
set_option linter.unusedVariables false
namespace Go.Rse
open Go Go.Proofs
def kA : List Sg := [ntQS 3, ntQS 4, ntQS 4, ntQS 3]
def kB : List Sg := [ntQS 3, ntQS 4]
def kC : List Sg := [ntQS 4, ntQS 3, ntQS 3]
def rA : List Rdg := [rdM [0, 3, 0] [4, 2, 2, 4], rdM [0, 4, 0] [6, 2, 4, 6]]
def rB : List Rdg := [rdM [0, 0] [6, 2], rdM [0, 1] [4, 2]]
theorem k_a : allB mCirc kA rA = true := by kernel_rfl
theorem k_b : allB mCirc kB rB = true := by kernel_rfl
theorem k_c : (decide (aqE mCirc kC = 14) && decide (aqV mCirc kC = [])) = true := by kernel_rfl
theorem k_d : (decide (aqE ⟨2, 2, 2, 2⟩ kA = 0) && decide ((aqV ⟨2, 2, 2, 2⟩ kA).length = 1)) = true := by kernel_rfl
theorem k_i : (!isV mCirc e18n (rdM [0, 2, 0] [6, 2, 6]) && decide (ckD mCirc e18n = 0)) = true := by kernel_rfl
theorem zsa : decide (ckD mCirc kB = 0) = true := by kernel_rfl
theorem zqR : rA.map toT = [⟨12, 1⟩, ⟨18, 1⟩] := by kernel_rfl
theorem zqS : rB.map toT = [⟨8, 1⟩, ⟨6, 1⟩] := by kernel_rfl
theorem zlO : ∀ t ∈ ([⟨12, 1⟩, ⟨18, 1⟩, ⟨8, 1⟩, ⟨6, 1⟩] : List Tm), ckT t = 0 := by decide +kernel
theorem zqT : ∀ r ∈ rA, Rb r := by intro r hr; simp [rA] at hr; rcases hr with rfl | rfl <;> exact ⟨by decide, by decide, by decide, by decide⟩
theorem znk : ∀ r ∈ rB, Rb r := by intro r hr; simp [rB] at hr; rcases hr with rfl | rfl <;> exact ⟨by decide, by decide, by decide, by decide⟩
theorem zsb : enV mCirc kA = [⟨12, 1⟩, ⟨18, 1⟩] := by
 unfold enV enL;rw [(zU k_a).2, zqR];exact zhq (fun x hx => zlO x (by simp at hx; rcases hx with rfl | rfl <;> simp)) (fun x => Iff.rfl) (by simp [ltT])
theorem zsc : enV mCirc kB = [⟨6, 1⟩, ⟨8, 1⟩] := by
 unfold enV enL;rw [(zU k_b).2, zqS];exact zhq (fun x hx => zlO x (by simp at hx; rcases hx with rfl | rfl <;> simp)) (fun x => by simp [or_comm]) (by simp [ltT])
theorem zsd : whV mCirc kB ⟨8, 1⟩ = [rdM [0, 0] [6, 2]] := by
 unfold whV;rw [(zU k_b).2];kernel_rfl
theorem zse : ∀ r ∈ aqV mCirc kA, ckT (toT r) = 0 := by
 rw [(zU k_a).2];intro r hr;have : toT r ∈ rA.map toT := List.mem_map.2 ⟨r, hr, rfl⟩;rw [zqR] at this;exact zlO _ (by simp at this; rcases this with h | h <;> rw [h] <;> simp)
theorem zsf : ∀ r ∈ aqV mCirc kB, ckT (toT r) = 0 := by
 rw [(zU k_b).2];intro r hr;have : toT r ∈ rB.map toT := List.mem_map.2 ⟨r, hr, rfl⟩;rw [zqS] at this;exact zlO _ (by simp at this; rcases this with h | h <;> rw [h] <;> simp)
theorem zsg : ∀ r ∈ aqV mCirc kA, r.Durs.length <= 1000000 := by rw [(zU k_a).2]; exact fun r hr => Nat.le_trans (zqT r hr).u (by decide)
theorem zqU : ∀ r ∈ aqV mCirc kB, r.Durs.length <= 1000000 := by rw [(zU k_b).2]; exact fun r hr => Nat.le_trans (znk r hr).u (by decide)
attribute [local irreducible] aqV aqE isV ckD enV whV
theorem znl : Fn Tryz.prog 23 [sgsA (([3, 4, 4, 3] : List Int).map ntQS), zL rA] (.bool true) := by
 have h := zaB kA rA (by decide) zqT;obtain ⟨e1, e2⟩ := zU k_a;rw [e1, e2, show (decide ((0 : Int) = 0) && decide (rA = rA)) = true by simp] at h;exact h
theorem znm : Fn Tryz.prog 23 [sgsA (([3, 4] : List Int).map ntQS), zL rB] (.bool true) := by
 have h := zaB kB rB (by decide) znk;obtain ⟨e1, e2⟩ := zU k_b;rw [e1, e2, show (decide ((0 : Int) = 0) && decide (rB = rB)) = true by simp] at h;exact h
theorem zki : Fn Tryz.prog 26 [mnA mCirc, sgsA (([3, 4] : List Int).map ntQS)] (.tup [iv 2, iv 0]) := by
 have h := za4 mCirc kB (by decide);obtain ⟨e1, e2⟩ := zU k_b;rw [e1, e2] at h; exact h
theorem zkj : Fn Tryz.prog 26 [mnA mCirc, sgsA (([4, 3, 3] : List Int).map ntQS)] (.tup [iv 0, iv 14]) := by
 have h := za4 mCirc kC (by decide);have e := k_c;rw [Bool.and_eq_true, decide_eq_true_iff, decide_eq_true_iff] at e;rw [e.1, e.2] at h; exact h
theorem zkk : Fn Tryz.prog 26 [mnA ⟨2, 2, 2, 2⟩, sgsA (([3, 4, 4, 3] : List Int).map ntQS)] (.tup [iv 1, iv 0]) := by
 have h := za4 ⟨2, 2, 2, 2⟩ kA (by decide);have e := k_d;rw [Bool.and_eq_true, decide_eq_true_iff, decide_eq_true_iff] at e;rw [e.1, e.2] at h; exact h
theorem zlP : Fn Tryz.prog 20 [mnA mCirc, sgsA (([3, 4, 4, 3] : List Int).map ntQS)] (.tup [tmsA [⟨12, 1⟩, ⟨18, 1⟩], iv 0]) := by
 have h := zct mCirc kA (by decide) zse zsg;rw [zsb, (zU k_a).1] at h; exact h
theorem zlQ : Fn Tryz.prog 20 [mnA mCirc, sgsA (([3, 4] : List Int).map ntQS)] (.tup [tmsA [⟨6, 1⟩, ⟨8, 1⟩], iv 0]) := by
 have h := zct mCirc kB (by decide) zsf zqU;rw [zsc, (zU k_b).1] at h; exact h
theorem zlR : Fn Tryz.prog 21 [mnA mCirc, sgsA (([3, 4] : List Int).map ntQS), tmA ⟨8, 1⟩] (.tup [zL [rdM [0, 0] [6, 2]], iv 0]) := by
 have h := zfp mCirc kB ⟨8, 1⟩ (by decide) (of_decide_eq_true zsa) (zlO _ (by simp)) (zU k_b).1 zqU;rw [zsd] at h; exact h
theorem zpo : Fn Tryz.prog 17 [mnA mCirc, sgsA (([3, 4, 3] : List Int).map ntQS), rdgA (rdM [0, 2, 0] [6, 2, 6])] (.tup [.bool false, iv 0]) := by
 have h := zdK mCirc e18n (rdM [0, 2, 0] [6, 2, 6]) (by decide) (by decide);have e := k_i;rw [Bool.and_eq_true, Bool.not_eq_true', decide_eq_true_iff] at e;rw [e.1, e.2] at h; exact h
attribute [local irreducible] Pur yA yC Ex X Fn Imp LeV LeB FnO It yF FnW FnOW
set_option maxHeartbeats 8000000 in
set_option maxRecDepth 100000 in
theorem C_tactuslaw18_ChoicesKnown  : Fn Tryz.prog 6 [] (.bool true) := by
 refine Fn.go Tryz.func6 Tryz.ntmps6 (fun g w d => ?_);apply yb;refine ya ?_;apply yj;refine yh ?_;apply yd;apply yb;iterate 4 refine ya ?_
 refine Ex.stepA (yn (enc := intE) (l := [3, 4, 4, 3]) sl22 ty3 ze3 (by decide) rfl rfl rfl rfl (by decide) (by decide) (fun _ => rfl) rfl) rfl rfl ?_;refine ym (yM [3, 4, 4, 3] (by decide)) ?_;refine Ex.stepA (yn (enc := intE) (l := [0, 3, 0]) sl22 ty3 ze3 (by decide) rfl rfl rfl rfl (by decide) (by decide) (fun _ => rfl) rfl) rfl rfl ?_;refine Ex.stepA (yn (enc := intE) (l := [4, 2, 2, 4]) sl22 ty3 ze3 (by decide) rfl rfl rfl rfl (by decide) (by decide) (fun _ => rfl) rfl) rfl rfl ?_;refine ym (yR [0, 3, 0] [4, 2, 2, 4] (by decide)) ?_;refine Ex.stepA (yn (enc := intE) (l := [0, 4, 0]) sl22 ty3 ze3 (by decide) rfl rfl rfl rfl (by decide) (by decide) (fun _ => rfl) rfl) rfl rfl ?_;refine Ex.stepA (yn (enc := intE) (l := [6, 2, 4, 6]) sl22 ty3 ze3 (by decide) rfl rfl rfl rfl (by decide) (by decide) (fun _ => rfl) rfl) rfl rfl ?_;refine ym (yR [0, 4, 0] [6, 2, 4, 6] (by decide)) ?_;refine Ex.stepA (yn (enc := rdgE) (l := rA) sl28 ty35 ze35 (by decide) rfl rfl rfl rfl (by decide) (by decide) (fun _ => rfl) rfl) rfl rfl ?_;refine ym znl ?_;iterate 2 refine ya ?_
 refine yq rfl rfl rfl ?_;refine ya ?_;refine yq rfl rfl rfl ?_;refine ya ?_;refine yq rfl rfl rfl ?_;refine Ex.stepA (yn (enc := intE) (l := [3, 4]) sl22 ty3 ze3 (by decide) rfl rfl rfl rfl (by decide) (by decide) (fun _ => rfl) rfl) rfl rfl ?_;refine yq rfl rfl rfl ?_;refine ym (yM [3, 4] (by decide)) ?_;refine yq rfl rfl rfl ?_;refine Ex.stepA (yn (enc := intE) (l := [0, 0]) sl22 ty3 ze3 (by decide) rfl rfl rfl rfl (by decide) (by decide) (fun _ => rfl) rfl) rfl rfl ?_;refine yq rfl rfl rfl ?_;refine Ex.stepA (yn (enc := intE) (l := [6, 2]) sl22 ty3 ze3 (by decide) rfl rfl rfl rfl (by decide) (by decide) (fun _ => rfl) rfl) rfl rfl ?_;refine yq rfl rfl rfl ?_;refine ym (yR [0, 0] [6, 2] (by decide)) ?_;refine yq rfl rfl rfl ?_;refine Ex.stepA (yn (enc := intE) (l := [0, 1]) sl22 ty3 ze3 (by decide) rfl rfl rfl rfl (by decide) (by decide) (fun _ => rfl) rfl) rfl rfl ?_;refine yq rfl rfl rfl ?_;refine Ex.stepA (yn (enc := intE) (l := [4, 2]) sl22 ty3 ze3 (by decide) rfl rfl rfl rfl (by decide) (by decide) (fun _ => rfl) rfl) rfl rfl ?_;refine yq rfl rfl rfl ?_;refine ym (yR [0, 1] [4, 2] (by decide)) ?_;refine yq rfl rfl rfl ?_;refine Ex.stepA (yn (enc := rdgE) (l := rB) sl28 ty35 ze35 (by decide) rfl rfl rfl rfl (by decide) (by decide) (fun _ => rfl) rfl) rfl rfl ?_;refine yq rfl rfl rfl ?_;refine ym znm ?_;refine yq rfl rfl rfl ?_;refine yh ?_;refine yl rfl ?_ ?_<;>intro hc1
 ·simp at hc1
 apply yf;apply yb;refine ym y4 ?_;iterate 2 refine ya ?_
 refine Ex.stepA (yn (enc := intE) (l := [3, 4]) sl22 ty3 ze3 (by decide) rfl rfl rfl rfl (by decide) (by decide) (fun _ => rfl) rfl) rfl rfl ?_;refine ym (yM [3, 4] (by decide)) ?_;refine ym zki ?_;iterate 5 refine ya ?_
 apply yj;refine ym y4 ?_;iterate 3 refine ya ?_
 refine Ex.stepA (yn (enc := intE) (l := [4, 3, 3]) sl22 ty3 ze3 (by decide) rfl rfl rfl rfl (by decide) (by decide) (fun _ => rfl) rfl) rfl rfl ?_;refine ym (yM [4, 3, 3] (by decide)) ?_;refine ym zkj ?_;iterate 5 refine ya ?_
 apply yj;refine ym zdp ?_;iterate 4 refine ya ?_
 refine Ex.stepA (yn (enc := intE) (l := [3, 4, 4, 3]) sl22 ty3 ze3 (by decide) rfl rfl rfl rfl (by decide) (by decide) (fun _ => rfl) rfl) rfl rfl ?_;refine ym (yM [3, 4, 4, 3] (by decide)) ?_;refine ym zkk ?_;refine zh ?_;apply yd;apply yb;iterate 3 refine ya ?_
 refine yq rfl rfl rfl ?_;refine ya ?_;refine yq rfl rfl rfl ?_;iterate 3 refine ya ?_
 refine yq rfl rfl rfl ?_;refine ya ?_;refine yq rfl rfl rfl ?_;iterate 3 refine ya ?_
 refine yq rfl rfl rfl ?_;refine ya ?_;refine yq rfl rfl rfl ?_;iterate 3 refine ya ?_
 refine yq rfl rfl rfl ?_;refine ya ?_;refine yq rfl rfl rfl ?_;refine yh ?_;refine yl rfl ?_ ?_<;>intro hc2
 ·simp at hc2
 apply yf;apply yb;refine ym y4 ?_;iterate 2 refine ya ?_
 refine Ex.stepA (yn (enc := intE) (l := [3, 4]) sl22 ty3 ze3 (by decide) rfl rfl rfl rfl (by decide) (by decide) (fun _ => rfl) rfl) rfl rfl ?_;refine ym (yM [3, 4] (by decide)) ?_;refine ym zlQ ?_;iterate 5 refine ya ?_
 apply yj;refine ym y4 ?_;iterate 4 refine ya ?_
 refine Ex.stepA (yn (enc := intE) (l := [3, 4, 4, 3]) sl22 ty3 ze3 (by decide) rfl rfl rfl rfl (by decide) (by decide) (fun _ => rfl) rfl) rfl rfl ?_;refine ym (yM [3, 4, 4, 3] (by decide)) ?_;refine ym zlP ?_;iterate 5 refine ya ?_
 apply yj;refine ym y4 ?_;iterate 2 refine ya ?_
 refine Ex.stepA (yn (enc := intE) (l := [3, 4]) sl22 ty3 ze3 (by decide) rfl rfl rfl rfl (by decide) (by decide) (fun _ => rfl) rfl) rfl rfl ?_;refine ym (yM [3, 4] (by decide)) ?_;refine ya ?_;refine ym zlR ?_;iterate 5 refine ya ?_
 apply yj;refine ym y4 ?_;iterate 3 refine ya ?_
 refine Ex.stepA (yn (enc := intE) (l := [3, 4, 3]) sl22 ty3 ze3 (by decide) rfl rfl rfl rfl (by decide) (by decide) (fun _ => rfl) rfl) rfl rfl ?_;refine ym (yM [3, 4, 3] (by decide)) ?_;refine Ex.stepA (yn (enc := intE) (l := [0, 2, 0]) sl22 ty3 ze3 (by decide) rfl rfl rfl rfl (by decide) (by decide) (fun _ => rfl) rfl) rfl rfl ?_;refine Ex.stepA (yn (enc := intE) (l := [6, 2, 6]) sl22 ty3 ze3 (by decide) rfl rfl rfl rfl (by decide) (by decide) (fun _ => rfl) rfl) rfl rfl ?_;refine ym (yR [0, 2, 0] [6, 2, 6] (by decide)) ?_;refine ym zpo ?_;iterate 5 refine ya ?_
 apply yj;iterate 3 refine ya ?_
 refine yq rfl rfl rfl ?_;refine ya ?_;refine yq rfl rfl rfl ?_;iterate 3 refine ya ?_
 refine yq rfl rfl rfl ?_;refine ya ?_;refine yq rfl rfl rfl ?_;iterate 3 refine ya ?_
 refine yq rfl rfl rfl ?_;refine ya ?_;refine yq rfl rfl rfl ?_;iterate 3 refine ya ?_
 refine yq rfl rfl rfl ?_;refine ya ?_;refine yq rfl rfl rfl ?_;iterate 3 refine ya ?_
 refine yq rfl rfl rfl ?_;refine ya ?_;refine yq rfl rfl rfl ?_;refine ya ?_;refine yq rfl rfl rfl ?_;refine ya ?_;refine yq rfl rfl rfl ?_;refine Ex.stepA (yn (enc := tmE) (l := [⟨6, 1⟩, ⟨8, 1⟩]) sl33 ty46 ze46 (by decide) rfl rfl rfl rfl (by decide) (by decide) (fun _ => rfl) rfl) rfl rfl ?_;refine yq rfl rfl rfl ?_;refine ym (zS [⟨6, 1⟩, ⟨8, 1⟩] [⟨6, 1⟩, ⟨8, 1⟩] (by decide)) ?_;iterate 2 refine ya ?_
 refine yq rfl rfl rfl ?_;refine ya ?_;refine yq rfl rfl rfl ?_;refine ya ?_;refine yq rfl rfl rfl ?_;refine ya ?_;refine yq rfl rfl rfl ?_;refine Ex.stepA (yn (enc := tmE) (l := [⟨12, 1⟩, ⟨18, 1⟩]) sl33 ty46 ze46 (by decide) rfl rfl rfl rfl (by decide) (by decide) (fun _ => rfl) rfl) rfl rfl ?_;refine yq rfl rfl rfl ?_;refine ym (zS [⟨12, 1⟩, ⟨18, 1⟩] [⟨12, 1⟩, ⟨18, 1⟩] (by decide)) ?_;iterate 2 refine ya ?_
 refine yq rfl rfl rfl ?_;refine ya ?_;refine yq rfl rfl rfl ?_;refine Ex.stepA (yn (enc := intE) (l := [0, 0]) sl22 ty3 ze3 (by decide) rfl rfl rfl rfl (by decide) (by decide) (fun _ => rfl) rfl) rfl rfl ?_;refine yq rfl rfl rfl ?_;refine Ex.stepA (yn (enc := intE) (l := [6, 2]) sl22 ty3 ze3 (by decide) rfl rfl rfl rfl (by decide) (by decide) (fun _ => rfl) rfl) rfl rfl ?_;refine yq rfl rfl rfl ?_;refine ym (yR [0, 0] [6, 2] (by decide)) ?_;refine yq rfl rfl rfl ?_;refine Ex.stepA (yn (enc := rdgE) (l := [rdM [0, 0] [6, 2]]) sl28 ty35 ze35 (by decide) rfl rfl rfl rfl (by decide) (by decide) (fun _ => rfl) rfl) rfl rfl ?_;refine yq rfl rfl rfl ?_;refine ym (zan [rdM [0, 0] [6, 2]] [rdM [0, 0] [6, 2]] (by decide) (fun r hr => znk r (by simp [rB] at hr ⊢; exact .inl hr)) (fun r hr => znk r (by simp [rB] at hr ⊢; exact .inl hr))) ?_;iterate 2 refine ya ?_
 refine yq rfl rfl rfl ?_;refine ym zdd ?_;refine yh ?_;refine X.ret ?_;refine yp ?_;all_goals (first | rfl | simp)
end Go.Rse
