/-
  Walks: the program's items.
-/
import Derived.Test.YtfiiobachmglpaaGreatDoorSIteA
set_option linter.unusedSimpArgs false
set_option linter.unusedVariables false
namespace Go.Rse
open Go Go.Proofs
attribute [local irreducible] Pur StepA StepM Ex X ExG Fn Imp LeV LeB FnO It YStep
attribute [local irreducible] mkC mkA mkE duV duE itK itOf ckD mulV mulE
set_option maxHeartbeats 4000000 in
theorem C_item_Items (m : Mn) (l : List Sg) (ch mi : List Int) (hl : l.length <= 1000) (hmi : mi.length <= 1000) : Fn Tryz.prog 33 [mnA m, sgsA l, intsA ch, intsA mi] (.tup [itsA (itmV m l ch mi), iv (itmE m l ch mi)]) := by
 refine Fn.go Tryz.func33 Tryz.ntmps33 (fun g w d => ?_)
 apply X.sr
 refine Ex.ba ?_
 iterate 2 refine Ex.pu ?_
 apply Ex.nil
 apply X.seq
 apply X.sr
 iterate 2 refine Ex.pu ?_
 refine Ex.ca (C_dot_Check m l hl) ?_
 refine Ex.pu ?_
 apply Ex.ns
 iterate 2 refine Ex.pu ?_
 apply Ex.nil
 refine X.cd rfl (fun hc1 => ?_) (fun hc1 => ?_)
 ·have hE : itmE m l ch mi = ckD m l := by rw [itmE_a (by rw [mkE_ck hc1]; exact hc1), mkE_ck hc1]
  have hV : itmV m l ch mi = [] := itmV_n (by rw [hE]; exact hc1)
  apply X.sr
  iterate 3 refine Ex.pu ?_
  apply Ex.nil
  refine X.ret ?_
  refine RetQ.imp (Imp.au (ts := [(8, itsA []), (9, iv (ckD m l))]) (hs := [])) ?_
  refine RetQ.ret (.many (by decide) (.cons (.tmp rfl (LeV.eq ?_)) (.cons (.tmp rfl (LeV.eq ?_)) .nil)))
  all_goals (first | (rw [hV]; done) | (rw [hE]; done) | (rw [hV]; rfl) | (rw [hE]; rfl))
 apply X.skip
 apply X.sr
 iterate 3 refine Ex.pu ?_
 refine Ex.ca (C_dot_Marks m l hl ch) ?_
 iterate 7 refine Ex.pu ?_
 apply Ex.nil
 apply X.seq
 apply X.sr
 iterate 2 refine Ex.pu ?_
 apply Ex.nil
 refine X.cd rfl (fun hc2 => ?_) (fun hc2 => ?_)
 ·have hE : itmE m l ch mi = mkE m l ch := itmE_a hc2
  have hV : itmV m l ch mi = [] := itmV_n (by rw [hE]; exact hc2)
  apply X.sr
  iterate 3 refine Ex.pu ?_
  apply Ex.nil
  refine X.ret ?_
  refine RetQ.imp (Imp.au (ts := [(8, itsA []), (9, iv (mkE m l ch))]) (hs := [])) ?_
  refine RetQ.ret (.many (by decide) (.cons (.tmp rfl (LeV.eq ?_)) (.cons (.tmp rfl (LeV.eq ?_)) .nil)))
  all_goals (first | (rw [hV]; done) | (rw [hE]; done) | (rw [hV]; rfl) | (rw [hE]; rfl))
 apply X.skip
 apply X.sr
 iterate 3 refine Ex.pu ?_
 refine Ex.ca (C_color_Durs m l mi hl hmi) ?_
 iterate 5 refine Ex.pu ?_
 apply Ex.nil
 apply X.seq
 apply X.sr
 iterate 2 refine Ex.pu ?_
 apply Ex.nil
 refine X.cd rfl (fun hc3 => ?_) (fun hc3 => ?_)
 ·have hE : itmE m l ch mi = duE m l mi := itmE_b hc2
  have hV : itmV m l ch mi = [] := itmV_n (by rw [hE]; exact hc3)
  apply X.sr
  iterate 3 refine Ex.pu ?_
  apply Ex.nil
  refine X.ret ?_
  refine RetQ.imp (Imp.au (ts := [(8, itsA []), (9, iv (duE m l mi))]) (hs := [])) ?_
  refine RetQ.ret (.many (by decide) (.cons (.tmp rfl (LeV.eq ?_)) (.cons (.tmp rfl (LeV.eq ?_)) .nil)))
  all_goals (first | (rw [hV]; done) | (rw [hE]; done) | (rw [hV]; rfl) | (rw [hE]; rfl))
 have hE : itmE m l ch mi = 0 := (itmE_b hc2).trans hc3
 have hV := itmV_y hE
 apply X.skip
 apply X.sr
 refine Ex.pu ?_
 apply Ex.nil
 apply X.seq
 apply X.seq
 refine X.imp (Imp.mkrow itE 62 12 15 201 rfl rfl) ?_
 apply X.region
 iterate 3 refine Ex.pu ?_
 apply Ex.nil
 apply X.block
 have hr0 := itK_0 l (mkC m l ch) (mkA m l ch) (duV m l mi)
 refine X.lp (ι := Nat) (fun (k : Nat) => [(11, intsA (mkC m l ch)), (12, boolsA (mkA m l ch)), (14, tmsA (duV m l mi)), (15, .own 201), (47, sgsA l), (48, iv l.length), (49, iv (k : Int))]) (fun (k : Nat) => [(201, .row itE (itK l (mkC m l ch) (mkA m l ch) (duV m l mi) k) 62 12)]) (fun (k : Nat) => k <= l.length) (fun (k : Nat) => l.length - k) 0 (fun k hk => ?_)
 apply X.sr
 refine Ex.pu ?_
 apply Ex.nil
 apply X.seq
 refine X.cd rfl (fun hc4 => ?_) (fun hc4 => ?_)
 ·obtain ⟨s, hs⟩ : ∃ s, l[k]? = some s := ⟨_, List.getElem?_eq_getElem (by omega)⟩
  have hs2 : l[(k : Int).toNat]? = some s := by simpa using hs
  have hnt := itK_nt l (mkC m l ch) (mkA m l ch) (duV m l mi) k
  have hnl := ntN_le l k
  apply X.skip
  apply X.seq
  apply X.block
  apply X.sr
  iterate 3 refine Ex.pu ?_
  refine Ex.al ?_
  refine Ex.pu ?_
  refine Ex.mo ?_
  apply Ex.nil
  apply X.seq
  apply X.sr
  iterate 3 refine Ex.pu ?_
  apply Ex.nil
  refine X.cd rfl (fun hc5 => ?_) (fun hc5 => ?_)
  ·have hst := itK_dot (c := mkC m l ch) (a := mkA m l ch) (d := duV m l mi) hs hc5
   apply X.exit
   apply X.region
   iterate 2 refine Ex.pu ?_
   apply Ex.nil
   refine X.bk (k + 1)
  obtain ⟨x, y, z, hx, hy, hz, hmul, hlt, hm, v1, v8⟩ := it_at hc2 hc3 hs hc5
  have hst := itK_nr hs hc5 hx hy hz
  have hx2 : (mkC m l ch)[((itK l (mkC m l ch) (mkA m l ch) (duV m l mi) k).length : Int).toNat]? = some x := by rw [hnt]; simpa using hx
  have hy2 : (mkA m l ch)[((itK l (mkC m l ch) (mkA m l ch) (duV m l mi) k).length : Int).toNat]? = some y := by rw [hnt]; simpa using hy
  have hz2 : (duV m l mi)[((itK l (mkC m l ch) (mkA m l ch) (duV m l mi) k).length : Int).toNat]? = some z := by rw [hnt]; simpa using hz
  apply X.skip
  apply X.sr
  iterate 3 refine Ex.pu ?_
  apply Ex.nil
  refine X.seqJ ⟨[(11, intsA (mkC m l ch)), (12, boolsA (mkA m l ch)), (14, tmsA (duV m l mi)), (15, .own 201), (18, iv ((itK l (mkC m l ch) (mkA m l ch) (duV m l mi) k).length : Int)), (19, .ptr 19 0 0 0), (47, sgsA l), (48, iv l.length), (49, iv (k : Int))], [(201, .row itE (itK l (mkC m l ch) (mkA m l ch) (duV m l mi) k) 62 12), (19, .box [iv k, iv s.Value, .bool (decide (s.Kind = 2)), .bool (decide (s.Kind = 1) && s.Color), .bool false, iv x, iv z.N, iv z.D, iv 0, iv 0, iv 0, iv 0] 62)]⟩ (fun hJ17 => ?_) ?_
  ·refine X.dw [19,59,60,61,62,63,64,65,66,67,68,69,70,71,72,73,74,75,76,77,78,79,80] [0,0,2,0,8,24,0,64,192,448,960,1984,4032,0,0,24576,57344,0,0,393216,917504,2097151,0,8388607] mo ?_
   iterate 10 refine ChM.pu ?_
   iterate 2 refine ChM.gi ?_
   iterate 10 refine ChM.pu ?_
   refine ChM.step rfl rfl rfl (A_alloc (k := 19) zc62) rfl ?_
   refine ChM.tl ?_
   refine Ex.mo ?_
   apply Ex.nil
   exact X.imp Imp.ax hJ17
  refine X.seqJ ⟨[(11, intsA (mkC m l ch)), (12, boolsA (mkA m l ch)), (14, tmsA (duV m l mi)), (15, .own 201), (18, iv ((itK l (mkC m l ch) (mkA m l ch) (duV m l mi) k).length : Int)), (19, .ptr 19 0 0 0), (47, sgsA l), (48, iv l.length), (49, iv (k : Int))], [(201, .row itE (itK l (mkC m l ch) (mkA m l ch) (duV m l mi) k) 62 12), (19, .box [iv k, iv s.Value, .bool (decide (s.Kind = 2)), .bool (decide (s.Kind = 1) && s.Color), .bool false, iv x, iv z.N, iv z.D, iv 0, iv 1, iv 0, iv 1] 62)]⟩ (fun hJ18 => ?_) ?_
  ·apply X.region
   iterate 3 refine Ex.pu ?_
   refine Ex.mo ?_
   refine Ex.pu ?_
   refine Ex.mo ?_
   apply Ex.nil
   exact X.imp Imp.ax hJ18
  apply X.seq
  apply X.block
  apply X.seq
  apply X.block
  apply X.seq
  apply X.block
  apply X.seq
  apply X.seq
  apply X.sr
  iterate 5 refine Ex.pu ?_
  apply Ex.nil
  refine X.cd rfl (fun hc6 => ?_) (fun hc6 => ?_)
  ·rw [← itL_a hc6] at hst
   apply X.exit
   apply X.sr
   iterate 3 refine Ex.pu ?_
   refine Ex.ca (C_span_Mul z ⟨3, 2⟩) ?_
   iterate 4 refine Ex.pu ?_
   refine Ex.mo ?_
   refine Ex.pu ?_
   apply Ex.ns
   iterate 2 refine Ex.pu ?_
   apply Ex.nil
   refine X.cd rfl (fun hc7 => ?_) (fun hc7 => ?_)
   ·exact absurd hmul hc7
   apply X.skip
   apply X.sr
   refine Ex.pu ?_
   refine Ex.mo ?_
   apply Ex.nil
   apply X.exit
   apply X.region
   iterate 2 refine Ex.pu ?_
   refine Ex.bs itE [itL k s true x (mulV z ⟨3, 2⟩)] ?_
   refine Ex.mo ?_
   refine Ex.pu ?_
   apply Ex.nil
   apply X.region
   iterate 2 refine Ex.pu ?_
   apply Ex.nil
   refine X.bk (k + 1)
  apply X.skip
  apply X.seq
  apply X.sr
  iterate 3 refine Ex.pu ?_
  apply Ex.nil
  refine X.cd rfl (fun hc8 => ?_) (fun hc8 => ?_)
  ·apply X.skip
   refine X.cd rfl (fun hc9 => ?_) (fun hc9 => ?_)
   ·rw [← itL_b hc6 (.inl hc8)] at hst
    apply X.exit
    apply X.sr
    refine Ex.pu ?_
    refine Ex.mo ?_
    apply Ex.nil
    apply X.exit
    apply X.region
    iterate 2 refine Ex.pu ?_
    refine Ex.bs itE [itL k s true x z] ?_
    refine Ex.mo ?_
    refine Ex.pu ?_
    apply Ex.nil
    apply X.region
    iterate 2 refine Ex.pu ?_
    apply Ex.nil
    refine X.bk (k + 1)
   exact absurd hc8 hc9
  ·apply X.sr
   iterate 3 refine Ex.pu ?_
   apply Ex.nil
   refine X.cd rfl (fun hc10 => ?_) (fun hc10 => ?_)
   ·apply X.skip
    refine X.cd rfl (fun hc11 => ?_) (fun hc11 => ?_)
    ·rw [← itL_b hc6 (.inr (.inl (by unfold clr; rw [decide_eq_true hc11.1, hc11.2]; rfl)))] at hst
     apply X.exit
     apply X.sr
     refine Ex.pu ?_
     refine Ex.mo ?_
     apply Ex.nil
     apply X.exit
     apply X.region
     iterate 2 refine Ex.pu ?_
     refine Ex.bs itE [itL k s true x z] ?_
     refine Ex.mo ?_
     refine Ex.pu ?_
     apply Ex.nil
     apply X.region
     iterate 2 refine Ex.pu ?_
     apply Ex.nil
     refine X.bk (k + 1)
    exact absurd hc11 (fun hc11 => hc11.elim (fun h => h hc10.1) (fun h => by rw [hc10.2] at h; cases h))
   ·apply X.region
    iterate 6 refine Ex.pu ?_
    apply Ex.nil
    refine X.cd rfl (fun hc12 => ?_) (fun hc12 => ?_)
    ·rw [← itL_b hc6 (.inr (.inr hc12))] at hst
     apply X.exit
     apply X.sr
     refine Ex.pu ?_
     refine Ex.mo ?_
     apply Ex.nil
     apply X.exit
     apply X.region
     iterate 2 refine Ex.pu ?_
     refine Ex.bs itE [itL k s true x z] ?_
     refine Ex.mo ?_
     refine Ex.pu ?_
     apply Ex.nil
     apply X.region
     iterate 2 refine Ex.pu ?_
     apply Ex.nil
     refine X.bk (k + 1)
    rw [← itL_c hc6 hc8 (by unfold clr; rcases hc10 with h | h <;> simp [h]) hc12] at hst
    apply X.skip
    apply X.exit
    apply X.region
    iterate 2 refine Ex.pu ?_
    refine Ex.bs itE [itL k s false x z] ?_
    refine Ex.mo ?_
    refine Ex.pu ?_
    apply Ex.nil
    apply X.region
    iterate 2 refine Ex.pu ?_
    apply Ex.nil
    refine X.bk (k + 1)
 ·have hkl : k = l.length := by omega
  subst hkl
  apply X.exit
  apply X.sr
  iterate 3 refine Ex.pu ?_
  apply Ex.nil
  refine X.ret ?_
  refine RetQ.imp (Imp.freeze (k := 201) rfl) ?_
  refine RetQ.ret (.many (by decide) (.cons (.tmp rfl (LeV.eq ?_)) (.cons (.tmp rfl (LeV.eq ?_)) .nil)))
  all_goals (first | (rw [hV]; done) | (rw [hE]; done) | (rw [hV]; rfl) | (rw [hE]; rfl))
end Go.Rse
