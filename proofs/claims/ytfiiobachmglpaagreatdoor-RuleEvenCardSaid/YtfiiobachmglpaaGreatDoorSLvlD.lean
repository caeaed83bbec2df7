/-
  Walks: choices by definition, made one after the other; Allowed and Apply by definition.
  Walks: Allowed and Apply by definition.
  Allowed and Apply: one contract for all inputs.
  Walks: Allowed, where the list that it answers is new.
-/
import Derived.Test.YtfiiobachmglpaaGreatDoorSLvlC
import Derived.Test.YtfiiobachmglpaaGreatDoorSLvlB
set_option linter.unusedSimpArgs false
set_option linter.unusedVariables false
namespace Go.Rse
open Go Go.Proofs
attribute [local irreducible] Pur StepA StepM Ex X ExG Fn Imp LeV LeB FnO It YStep FnW FnOW
attribute [local irreducible] addV addE subV subE chA chB chN
end Go.Rse
namespace Go.Rse
open Go Go.Proofs
attribute [local irreducible] Pur StepA StepM Ex X ExG Fn Imp LeV LeB FnO It YStep FnW FnOW
attribute [local irreducible] stK okJ alK alQ chN chL segV segE unT
end Go.Rse
namespace Go.Rse
open Go Go.Proofs
attribute [local irreducible] Pur StepA StepM Ex X ExG Fn Imp LeV LeB FnO It YStep FnW FnOW
theorem tmkT_nn (n d : Int) : 0 <= (tmkT n d).N := by
 unfold tmkT
 split
 ·rename_i h
  unfold tmkE at h
  split at h
  ·cases h
  ·refine Int.ediv_nonneg (by omega) ?_
   unfold gI; omega
 ·exact Int.le_refl _
theorem cnV_nn (u : Tm) (l : List Ite) (s : Sgm) : 0 <= (cnV u l s).N := by
 unfold cnV
 split
 ·unfold divV
  split
  ·split
   ·exact Int.le_refl _
   ·unfold tmsV
    split
    ·exact Int.le_refl _
    ·exact tmkT_nn _ _
  ·exact Int.le_refl _
 ·exact Int.le_refl _
theorem sgV_nn (m : Mn) (k : Int) (l : List Ite) : ∀ s ∈ segV m k l, 0 <= s.Count.N := by
 unfold segV
 split
 ·intro s hs
  obtain ⟨t, ht, rfl⟩ := List.mem_map.1 hs
  exact cnV_nn _ _ _
 ·intro s hs; cases hs
section
variable {m : Mn} {k : Int} {l : List Ite} {M : List Int}
theorem ap_a (h : ¬ segE m k l = 0) : apE m k l M = segE m k l /\ apV m k l M = [] := by
 have : apE m k l M = segE m k l := by unfold apE; rw [if_neg h]
 refine ⟨this, ?_⟩; unfold apV; rw [this, if_neg h]
theorem ap_b (h : segE m k l = 0) (h2 : ¬ (segV m k l).length = M.length \/ okJ (unT m k) k (segV m k l) l M M.length = false) : apE m k l M = 2 /\ apV m k l M = [] := by
 have : apE m k l M = 2 := by unfold apE; rw [if_pos h, if_pos h2]
 refine ⟨this, ?_⟩; unfold apV; rw [this, if_neg (by decide)]
theorem ap_d (h : segE m k l = 0) (h2 : ¬ (¬ (segV m k l).length = M.length \/ okJ (unT m k) k (segV m k l) l M M.length = false)) : apE m k l M = 0 /\ apV m k l M = (stK (unT m k) (segV m k l) l M M.length).1 := by
 have : apE m k l M = 0 := by unfold apE; rw [if_pos h, if_neg h2]
 refine ⟨this, ?_⟩; unfold apV; rw [if_pos this]
end
theorem C_level_Apply (m : Mn) (k : Int) (l : List Ite) (M : List Int) (h0 : -9223372036854775808 <= k) (h1 : k <= 9223372036854775807) (hl : l.length <= 1000000) (hM : M.length <= 4000000) : Fn Tryz.prog 36 [mnA m, iv k, itsA l, intsA M] (.tup [itsA (apV m k l M), iv (apE m k l M)]) := by
 by_cases hE : segE m k l = 0
 ·by_cases hX : (segV m k l).length = M.length
  ·by_cases hO : okJ (unT m k) k (segV m k l) l M M.length = false
   ·obtain ⟨e1, e2⟩ := ap_b hE (.inr hO); rw [e1, e2]
    exact C_level_Apply_c m k l M h0 h1 hl hM hE (by simp; omega) (hok := hO) (hN := sgV_nn m k l) (hMS := by omega)
   ·obtain ⟨e1, e2⟩ := ap_d hE (fun h => h.elim (fun g => g hX) hO); rw [e1, e2]
    exact C_level_Apply_d m k l M h0 h1 hl hM hE (by simp; omega) (hok := by simpa using hO) (hN := sgV_nn m k l) (hMS := by omega)
  ·obtain ⟨e1, e2⟩ := ap_b hE (.inl hX); rw [e1, e2]
   exact C_level_Apply_b m k l M h0 h1 hl hM hE (by simp; omega)
 ·obtain ⟨e1, e2⟩ := ap_a (M := M) hE; rw [e1, e2]
  exact C_level_Apply_a m k l M h0 h1 hl hM hE
end Go.Rse
namespace Go.Rse
open Go Go.Proofs
attribute [local irreducible] Pur StepA StepM Ex X ExG Fn Imp LeV LeB FnO It YStep FnW FnOW
attribute [local irreducible] stK okJ alK alQ chN chL segV segE unT
set_option maxHeartbeats 2000000 in
theorem C_level_Allowed_o (m : Mn) (k : Int) (l : List Ite) (M : List Int) (h0 : -9223372036854775808 <= k) (h1 : k <= 9223372036854775807) (hl : l.length <= 1000000) (hM : M.length <= 4000000) (hE : segE m k l = 0) (hX : (decide (((segV m k l).length : Int) <= (M.length : Int))) = false) (hok : okJ (unT m k) k (segV m k l) l M M.length = true) (hN : ∀ s ∈ segV m k l, 0 <= s.Count.N) (hMS : M.length <= (segV m k l).length) : FnO Tryz.prog 64 [mnA m, iv k, itsA l, intsA M] [] [] (.tup [.own 42, iv 0]) [(42, .row intE (alK (unT m k) k (segV m k l) l M M.length) 3 1)] := by
 have hbl := segV_len m k l
 have hu := unE_0 (sgE_0 hE).1
 have hSO := sgV_ok hE
 obtain ⟨s, hs⟩ : ∃ s, (segV m k l)[M.length]? = some s := ⟨_, List.getElem?_eq_getElem (by simp at hX; omega)⟩
 have hs2 : (segV m k l)[(M.length : Int).toNat]? = some s := by simpa using hs
 have hso := hSO.all s (List.mem_of_getElem? hs)
 have hsb := sgB_len hso.b (stK_len (unT m k) (segV m k l) l M M.length)
 have hsN := hN s (List.mem_of_getElem? hs)
 have hsl := stK_len (unT m k) (segV m k l) l M M.length
 have hae : alQ (unT m k) k (stK (unT m k) (segV m k l) l M M.length).1 (stK (unT m k) (segV m k l) l M M.length).2 s = alK (unT m k) k (segV m k l) l M M.length := by unfold alK; rw [show (segV m k l).getD M.length default = s by rw [List.getD_eq_getElem?_getD, hs]; rfl]
 refine FnO.introX (ts := [(0, mnA m), (1, iv k), (2, itsA l), (3, intsA M)]) (rv := [.tmp 8, .tmp 9]) (n := 43) (cs := []) (by kernel_rfl) Tryz.func64 rfl Tryz.ntmps64 rfl rfl (by simp) rfl rfl rfl rfl (fun g w d vs => ?_)
 apply X.sr
 refine Ex.ba ?_
 iterate 2 refine Ex.pu ?_
 apply Ex.ns
 iterate 3 refine Ex.pu ?_
 refine Ex.co [(36, 2000000), (30, 2000001), (34, 2000002)] (C_level_start_ok m k l h0 h1 hl hE) ?_
 iterate 7 refine Ex.pu ?_
 apply Ex.nil
 apply X.seq
 apply X.sr
 iterate 2 refine Ex.pu ?_
 apply Ex.nil
 refine X.cd rfl (fun hc1 => ?_) (fun hc1 => ?_)
 ·exact absurd rfl hc1
 apply X.skip
 apply X.seq
 apply X.seq
 have hg5 : ((decide (((segV m k l).length : Int) <= (M.length : Int))) == false) = true := by rw [hX]; rfl
 ·apply X.region
  iterate 6 refine Ex.pu ?_
  iterate 3 refine Ex.gp ?_
  refine Ex.unguard rfl rfl hg5 ?_
  refine Ex.co [(2000000, 2000000), (2000001, 2000001), (2000002, 2000002)] (C_level_run_follow_yes (unT m k) k (segV m k l) l M hSO hN hMS hl (by omega) (by omega) (by omega) hok) ?_
  refine Ex.gp ?_
  refine Ex.pu ?_
  apply Ex.nil
  refine X.cd rfl (fun hc2 => ?_) (fun hc2 => ?_)
  ·first | (exact absurd hc2.2 (by decide)) | (cases hc2; done) | (exact absurd hc2 (by simp [hX])) | (simp [hX] at hc2; done) | (rcases hc2 with h | h <;> first | (cases h; done) | (exact absurd h (by simpa using hX)) | (simp [hX] at h; done) | (exact absurd h (by decide)))
  apply X.skip
  apply X.sr
  iterate 6 refine Ex.pu ?_
  refine Ex.stepA (A_lendO (ι := Nat) (stF := fun b => ⟨[(36, .ept (fun _ : Unit => [.sl itE (stK (unT m k) (segV m k l) l M M.length).1, iv k, iv (unT m k).N, iv (unT m k).D, .val (.map (some b))]) () 0), (41, smA s)], []⟩) 42 (fun g a w hr => lendM (k := 2000002) rfl (fun b => (Imp.freeze (k := 2000001) rfl).trans ((Imp.freezeBox (k := 2000000) rfl rfl).trans Imp.au)) (fun _ => rfl) (fun _ => rfl) hr) (fun b => C_level_run_allowed (stK (unT m k) (segV m k l) l M M.length).1 k (unT m k) b (stK (unT m k) (segV m k l) l M M.length).2 s hsb (by omega) (by omega) (by omega) hsN)) rfl rfl ?_
  iterate 2 refine Ex.pu ?_
  apply Ex.nil
  refine X.ret ?_
  refine RetQXI (st' := ⟨[(8, .own 42), (9, iv 0)], [(1000001, .hold vs []), (42, .row intE (alK (unT m k) k (segV m k l) l M M.length) 3 1)]⟩) (by first | exact Imp.au | exact Imp.ax) ?_
  refine RetQX.mk [(8, .own 42), (9, iv 0)] [] (.inr rfl) (.many (by decide) (.cons (.tmp rfl (LeV.eq ?_)) (.cons (.tmp rfl (LeV.eq ?_)) .nil)))
  all_goals (rfl)
end Go.Rse
