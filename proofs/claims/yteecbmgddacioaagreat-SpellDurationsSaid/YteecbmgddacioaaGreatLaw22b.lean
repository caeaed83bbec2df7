/-
  Walks: the statements on plain mensurations and on the chapter's examples.
-/
import Derived.Test.YteecbmgddacioaaGreatLaw22a
import Derived.Test.YteecbmgddacioaaGreatSpell5
namespace Go.Rse
open Go Go.Proofs Go.RowKit
set_option linter.unusedVariables false
set_option linter.unusedSimpArgs false
theorem Fn.le2 {P : Program} {f : FuncId} {xs ys : List AV} {r : AV} (h : Fn P f xs r) (hl : LeL ys xs) : Fn P f ys r := ⟨h.1, h.2.1, fun g w args him hr => h.2.2 g w args him (hl.rvl hr)⟩
attribute [local irreducible] Pur StepA StepM Ex X ExG Fn Imp LeV LeB FnO It YStep
def sameB (l L : List Tm) : Bool := (l.all fun x => decide (ckT x = 0) && decide (x ∈ L)) && (L.all fun x => decide (x ∈ l)) && decide (L.Pairwise ltT)
theorem srtT_b {l L : List Tm} (h : sameB l L = true) : srtT l = L := by
  unfold sameB at h
  simp only [Bool.and_eq_true, List.all_eq_true, decide_eq_true_eq] at h
  exact srtT_eq (fun x hx => (h.1.1 x hx).1) (fun x => ⟨h.1.2 x, fun hx => (h.1.1 x hx).2⟩) h.2
theorem durV_b {m : Mn} {v w : Int} {L : List Tm} (h : durE m (spOf v w) = 0 ∧ sameB (wdL m v w.toNat) L = true) : durE m (spOf v w) = 0 ∧ durV m (spOf v w) = L := by
  refine ⟨h.1, ?_⟩
  unfold durV; rw [if_pos h.1]; exact srtT_b h.2
theorem pl_all : ((List.range 8).all fun i => decide (durE mHalf (spOf (1 + (i : Int)) 3) = 0) && sameB (wdL mHalf (1 + (i : Int)) 3) [] && decide (durE mHalf (spOf (1 + (i : Int)) 4) = 0) && sameB (wdL mHalf (1 + (i : Int)) 4) []) = true := by decide +kernel
theorem pl_law (k : Int) : (durE mHalf (spOf (1 + k % 8) 3) = 0 ∧ durV mHalf (spOf (1 + k % 8) 3) = []) ∧ (durE mHalf (spOf (1 + k % 8) 4) = 0 ∧ durV mHalf (spOf (1 + k % 8) 4) = []) := by
  have h := List.all_eq_true.1 pl_all (k % 8).toNat (List.mem_range.2 (by omega))
  rw [show (((k % 8).toNat : Nat) : Int) = k % 8 by omega] at h
  simp only [Bool.and_eq_true, decide_eq_true_eq] at h
  exact ⟨durV_b ⟨h.1.1.1, h.1.1.2⟩, durV_b ⟨h.1.2, h.2⟩⟩
theorem kn_1 : durE mCirc (spOf 2 3) = 0 ∧ durV mCirc (spOf 2 3) = [⟨8, 1⟩, ⟨10, 1⟩] := durV_b (by decide +kernel)
theorem kn_2 : durE mProl (spOf 3 3) = 0 ∧ durV mProl (spOf 3 3) = [⟨4, 1⟩, ⟨5, 1⟩] := durV_b (by decide +kernel)
theorem kn_3 : durE mCirc (spOf 3 2) = 0 ∧ durV mCirc (spOf 3 2) = [] := durV_b (by decide +kernel)
theorem kn_4 : durE mCirc (spOf 4 2) = 0 ∧ durV mCirc (spOf 4 2) = [⟨3, 1⟩] := durV_b (by decide +kernel)
theorem kn_5 : durE mCirc (spOf 4 7) = 0 ∧ durV mCirc (spOf 4 7) = [⟨3, 2⟩] := durV_b (by decide +kernel)
theorem kn_6 : bthE mCirc ⟨6, 1⟩ = 0 ∧ allE mCirc ⟨6, 1⟩ = [spOf 3 1, spOf 3 6, spOf 3 8] := by decide +kernel
theorem kn_7 : rstE mHalf ⟨1, 16⟩ = 18 := by decide +kernel
theorem kn_8 : rstE mCirc ⟨0, 1⟩ = 2 := by decide +kernel
/-- The signs of a spelling at a place. -/
def sigE (s : Sp) (p : Int) : Int := if chS s = 0 then (if p < -4 ∨ 12 < p then 2 else 0) else chS s
def sgN (v p : Int) (b : Bool) : Sg := ⟨1, v, p, 0, b, 0, false, false, ⟨0, 0, 0, 0⟩, false, 0, 0, 0, 0⟩
def sigV (s : Sp) (p : Int) : List Sg := if sigE s p = 0 then (if s.Way = 8 then [sgRest s.Value] else if s.Way = 2 ∨ s.Way = 6 then [sgN s.Value p (decide (s.Way = 5) || decide (s.Way = 6) || decide (s.Way = 7)), sgDot] else [sgN s.Value p (decide (s.Way = 5) || decide (s.Way = 6) || decide (s.Way = 7))]) else []
theorem kn_9 : sigE (spOf 4 2) 4 = 0 ∧ sigV (spOf 4 2) 4 = [sgN 4 4 false, sgDot] := by decide +kernel
theorem kn_10 : sigE (spOf 3 8) 4 = 0 ∧ sigV (spOf 3 8) 4 = [sgRest 3] := by decide +kernel
attribute [local irreducible] durE durV wdL srtT
theorem C_spell_SignsY (s : Sp) (p : Int) (c : chS s = 0) : Fn Tryz.prog 6 [spA s, iv p] (.tup [sgsA (sigV s p), iv (sigE s p)]) := by
  obtain ⟨hV1, hV8, hW1, hW8, hR, hC, hD⟩ := chS_0 c
  refine Fn.go Tryz.func6 Tryz.ntmps6 (fun g w d => ?_)
  refine X.seq ?_
  refine X.region ?_
  refine Ex.ba ?_
  iterate 2 refine Ex.pu ?_
  refine Ex.nil ?_
  refine X.seq ?_
  refine X.region ?_
  refine Ex.pu ?_
  refine Ex.ca (C_spell_checkY s c) ?_
  iterate 3 refine Ex.pu ?_
  refine Ex.al ?_
  refine Ex.mo ?_
  refine Ex.pu ?_
  refine Ex.nil ?_
  refine X.seq ?_
  refine X.seq ?_
  refine X.region ?_
  iterate 2 refine Ex.pu ?_
  refine Ex.nil ?_
  refine X.cd rfl (fun hc1 => ?_) (fun hc1 => ?_)
  · exact absurd rfl hc1
  refine X.skip ?_
  refine X.seq ?_
  refine X.seq ?_
  refine X.region ?_
  iterate 2 refine Ex.pu ?_
  refine ExF.at 2 ?_
  refine ExF.pu ?_
  iterate 2 refine ExF.gi ?_
  refine ExF.done ?_
  refine Ex.pu ?_
  refine Ex.nil ?_
  refine X.cd rfl (fun hc2 => ?_) (fun hc2 => ?_)
  · have hE : 2 = sigE s p := by unfold sigE; rw [if_pos c, if_pos hc2]
    have hV : [] = sigV s p := by unfold sigV; rw [if_neg (by omega)]
    refine X.seq ?_
    refine X.region ?_
    iterate 2 refine Ex.pu ?_
    refine Ex.nil ?_
    refine X.ret ?_
    refine RetQ.imp (Imp.au (ts := [(4, sgsA []), (5, iv 2)]) (hs := [])) ?_
    refine RetQ.ret (.many (by decide) (.cons (.tmp rfl (LeV.eq ?_)) (.cons (.tmp rfl (LeV.eq ?_)) .nil)))
    all_goals (first | exact congrArg sgsA hV | exact congrArg (AV.int .i64) hE)
  have hE : 0 = sigE s p := by unfold sigE; rw [if_pos c, if_neg (by omega)]
  refine X.skip ?_
  refine X.seq ?_
  refine X.seq ?_
  refine X.region ?_
  iterate 2 refine Ex.pu ?_
  refine Ex.nil ?_
  refine X.cd rfl (fun hc3 => ?_) (fun hc3 => ?_)
  · have hV : [sgRest s.Value] = sigV s p := by unfold sigV; rw [if_pos hE.symm, if_pos (by simpa using hc3)]
    refine X.seq ?_
    refine X.region ?_
    iterate 3 refine Ex.pu ?_
    refine Ex.bs sgE [sgRest s.Value] ?_
    iterate 2 refine Ex.pu ?_
    refine Ex.nil ?_
    refine X.ret ?_
    refine RetQ.imp (Imp.freeze (k := 28) rfl) ?_
    refine RetQ.ret (.many (by decide) (.cons (.tmp rfl (LeV.eq ?_)) (.cons (.tmp rfl (LeV.eq ?_)) .nil)))
    all_goals (first | exact congrArg sgsA hV | exact congrArg (AV.int .i64) hE)
  have h8 : ¬ s.Way = 8 := by simpa using hc3
  refine X.skip ?_
  refine X.seq ?_
  refine X.region ?_
  iterate 6 refine Ex.pu ?_
  refine Ex.bs sgE [sgN s.Value p (decide (s.Way = 5) || decide (s.Way = 6) || decide (s.Way = 7))] ?_
  refine Ex.pu ?_
  refine Ex.nil ?_
  refine X.seq ?_
  refine X.seq ?_
  refine X.region ?_
  iterate 2 refine Ex.pu ?_
  refine Ex.nil ?_
  refine X.cd rfl (fun hc4 => ?_) (fun hc4 => ?_)
  · have h26 : s.Way = 2 ∨ s.Way = 6 := by simpa using hc4
    have hV : [sgN s.Value p (decide (s.Way = 5) || decide (s.Way = 6) || decide (s.Way = 7))] ++ [sgDot] = sigV s p := by unfold sigV; rw [if_pos hE.symm, if_neg h8, if_pos h26]; rfl
    refine X.region ?_
    iterate 2 refine Ex.pu ?_
    refine Ex.bs sgE [sgDot] ?_
    refine Ex.mo ?_
    refine Ex.pu ?_
    refine Ex.nil ?_
    refine X.seq ?_
    refine X.region ?_
    iterate 3 refine Ex.pu ?_
    refine Ex.nil ?_
    refine X.ret ?_
    refine RetQ.imp (Imp.freeze (k := 35) rfl) ?_
    refine RetQ.ret (.many (by decide) (.cons (.tmp rfl (LeV.eq ?_)) (.cons (.tmp rfl (LeV.eq ?_)) .nil)))
    all_goals (first | exact congrArg sgsA hV | exact congrArg (AV.int .i64) hE)
  · have h26 : ¬ (s.Way = 2 ∨ s.Way = 6) := by simpa using hc4
    have hV : [sgN s.Value p (decide (s.Way = 5) || decide (s.Way = 6) || decide (s.Way = 7))] = sigV s p := by unfold sigV; rw [if_pos hE.symm, if_neg h8, if_neg h26]
    refine X.skip ?_
    refine X.seq ?_
    refine X.region ?_
    iterate 3 refine Ex.pu ?_
    refine Ex.nil ?_
    refine X.ret ?_
    refine RetQ.imp (Imp.freeze (k := 35) rfl) ?_
    refine RetQ.ret (.many (by decide) (.cons (.tmp rfl (LeV.eq ?_)) (.cons (.tmp rfl (LeV.eq ?_)) .nil)))
    all_goals (first | exact congrArg sgsA hV | exact congrArg (AV.int .i64) hE)
end Go.Rse
