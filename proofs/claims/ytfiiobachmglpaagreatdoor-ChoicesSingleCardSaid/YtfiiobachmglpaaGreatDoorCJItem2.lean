/-
  Walks: the reference's items.
-/
import Derived.Test.YtfiiobachmglpaaGreatDoorCJItfA
import Derived.Test.YtfiiobachmglpaaGreatDoorCLvlA
import Derived.Test.YtfiiobachmglpaaGreatDoorCColB
import Derived.Test.YtfiiobachmglpaaGreatDoorCLogB
import Derived.Test.YtfiiobachmglpaaGreatDoorCJFull1
import Derived.Test.YtfiiobachmglpaaGreatDoorCJLvlC
import Derived.Test.YtfiiobachmglpaaGreatDoorCLevA
set_option linter.unusedSimpArgs false
set_option linter.unusedVariables false
namespace Go.Rse
open Go Go.Proofs
attribute [local irreducible] Pur StepA StepM Ex X Fn Imp LeV LeB FnO It YStep
attribute [local irreducible] mkC mkA mkE duV duE itK itOf ckD mulV mulE rmE
end Go.Rse
namespace Go.Rse
open Go Go.Proofs
attribute [local irreducible] Pur StepA StepM Ex X Fn Imp LeV LeB FnO It YStep
def ica (m : Mn) (l : List Sg) : Int := if ictE m l = 0 then cntV m l else 0
def icb (m : Mn) (l : List Sg) : Int := if ictE m l = 0 then colN m l else 0
theorem cntV_nn (m : Mn) (l : List Sg) : 0 <= cntV m l := by
 unfold cntV; split
 ·next h =>
  have := cntF_pos (L := mnsD m l) (n := 1) (fun x hx => mnsD_pos h hx) (by omega) (by omega)
  split <;> omega
 ·omega
theorem colN_b (m : Mn) (l : List Sg) : 0 <= colN m l /\ colN m l <= 64 := by
 unfold colN; split
 ·split
  ·omega
  ·have := pow2_tab (k := (prL m l).length) (by omega); omega
 ·omega
theorem ic_n {m : Mn} {l : List Sg} {e : Int} (h : ictE m l = e) (he : ¬ e = 0) : 0 = ica m l /\ 0 = icb m l := by
 unfold ica icb; rw [if_neg (by rw [h]; exact he), if_neg (by rw [h]; exact he)]; exact ⟨rfl, rfl⟩
theorem ic_y {m : Mn} {l : List Sg} (h : ictE m l = 0) : cntV m l = ica m l /\ colN m l = icb m l := by
 unfold ica icb; rw [if_pos h, if_pos h]; exact ⟨rfl, rfl⟩
theorem ic_b (m : Mn) (l : List Sg) : 0 <= ica m l /\ ica m l <= 64 /\ 0 <= icb m l /\ icb m l <= 64 /\ ica m l * icb m l = ictV m l := by
 have h1 := cntV_nn m l
 have h2 := cntV_le (m := m) (l := l)
 have h3 := colN_b m l
 unfold ica icb ictV
 by_cases h : ictE m l = 0
 ·rw [if_pos h, if_pos h, if_pos h]; exact ⟨h1, h2, h3.1, h3.2, rfl⟩
 ·rw [if_neg h, if_neg h, if_neg h]; exact ⟨by omega, by omega, by omega, by omega, rfl⟩
theorem dgL_nil (n : Int) : dgL n [] = ([], n) := rfl
theorem dgL_cons (n b : Int) (r : List Int) : dgL n (b :: r) = ((dgL n r).2 % b :: (dgL n r).1, (dgL n r).2 / b) := rfl
theorem dgL_two (n a b : Int) : dgL n [a, b] = ([n / b % a, n % b], n / b / a) := rfl
attribute [local irreducible] cntV cntE colN colE ictE ictV ica icb dgL iofE iofD iofM ckD ruleD twos prL
set_option maxHeartbeats 4000000 in
theorem C_item_counts (m : Mn) (l : List Sg) (hl : l.length <= 1000) : Fn Tryz.prog 231 [mnA m, sgsA l] (.tup [iv (ica m l), iv (icb m l), iv (ictE m l)]) := by
 have q1 := cntV_nn m l
 have q2 := cntV_le (m := m) (l := l)
 have q3 := colN_b m l
 have q4 := mulB q1 q2 q3.1 q3.2
 refine Fn.go Tryz.func231 Tryz.ntmps231 (fun g w d => ?_)
 apply X.sr
 refine Ex.ba ?_
 iterate 3 refine Ex.pu ?_
 apply Ex.ns
 iterate 2 refine Ex.pu ?_
 refine Ex.ca (C_dot_Count m l hl) ?_
 iterate 5 refine Ex.pu ?_
 apply Ex.nil
 apply X.seq
 apply X.sr
 iterate 2 refine Ex.pu ?_
 apply Ex.nil
 refine X.cd rfl (fun hc1 => ?_) (fun hc1 => ?_)
 ·have hE : cntE m l = ictE m l := by unfold ictE; rw [if_neg hc1]
  have hZ1 := ic_n hE.symm hc1
  obtain ⟨hA, hB⟩ := hZ1
  apply X.sr
  iterate 4 refine Ex.pu ?_
  apply Ex.nil
  refine X.ret ?_
  refine RetQ.ret (.many (by decide) (.cons (.tmp rfl (LeV.eq ?_)) (.cons (.tmp rfl (LeV.eq ?_)) (.cons (.tmp rfl (LeV.eq ?_)) .nil))))
  all_goals (first | exact congrArg (AV.int .i64) hA | exact congrArg (AV.int .i64) hB | exact congrArg (AV.int .i64) hE)
 apply X.skip
 apply X.sr
 iterate 2 refine Ex.pu ?_
 refine Ex.ca (C_color_Count m l hl) ?_
 iterate 5 refine Ex.pu ?_
 apply Ex.nil
 apply X.seq
 apply X.sr
 iterate 2 refine Ex.pu ?_
 apply Ex.nil
 refine X.cd rfl (fun hc2 => ?_) (fun hc2 => ?_)
 ·have hE : colE m l = ictE m l := by unfold ictE; rw [if_pos hc1, if_neg hc2]
  have hZ2 := ic_n hE.symm hc2
  obtain ⟨hA, hB⟩ := hZ2
  apply X.sr
  iterate 4 refine Ex.pu ?_
  apply Ex.nil
  refine X.ret ?_
  refine RetQ.ret (.many (by decide) (.cons (.tmp rfl (LeV.eq ?_)) (.cons (.tmp rfl (LeV.eq ?_)) (.cons (.tmp rfl (LeV.eq ?_)) .nil))))
  all_goals (first | exact congrArg (AV.int .i64) hA | exact congrArg (AV.int .i64) hB | exact congrArg (AV.int .i64) hE)
 apply X.skip
 apply X.seq
 apply X.sr
 iterate 4 refine Ex.pu ?_
 apply Ex.nil
 refine X.cd rfl (fun hc3 => ?_) (fun hc3 => ?_)
 ·have hE : 15 = ictE m l := by unfold ictE; rw [if_pos hc1, if_pos hc2, if_pos hc3]
  have hZ3 := ic_n hE.symm (by decide)
  obtain ⟨hA, hB⟩ := hZ3
  apply X.sr
  iterate 3 refine Ex.pu ?_
  apply Ex.nil
  refine X.ret ?_
  refine RetQ.ret (.many (by decide) (.cons (.tmp rfl (LeV.eq ?_)) (.cons (.tmp rfl (LeV.eq ?_)) (.cons (.tmp rfl (LeV.eq ?_)) .nil))))
  all_goals (first | exact congrArg (AV.int .i64) hA | exact congrArg (AV.int .i64) hB | exact congrArg (AV.int .i64) hE)
 have hE : 0 = ictE m l := by unfold ictE; rw [if_pos hc1, if_pos hc2, if_neg (by omega)]
 have hZ4 := ic_y hE.symm
 obtain ⟨hA, hB⟩ := hZ4
 apply X.skip
 apply X.sr
 iterate 5 refine Ex.pu ?_
 apply Ex.nil
 refine X.ret ?_
 refine RetQ.ret (.many (by decide) (.cons (.tmp rfl (LeV.eq ?_)) (.cons (.tmp rfl (LeV.eq ?_)) (.cons (.tmp rfl (LeV.eq ?_)) .nil))))
 all_goals (first | exact congrArg (AV.int .i64) hA | exact congrArg (AV.int .i64) hB | exact congrArg (AV.int .i64) hE)
set_option maxHeartbeats 4000000 in
theorem C_item_Count (m : Mn) (l : List Sg) (hl : l.length <= 1000) : Fn Tryz.prog 174 [mnA m, sgsA l] (.tup [iv (ictV m l), iv (ictE m l)]) := by
 have hZ1 := ic_b m l
 obtain ⟨q1, q2, q3, q4, q5⟩ := hZ1
 have q6 := mulB q1 q2 q3 q4
 refine Fn.go Tryz.func174 Tryz.ntmps174 (fun g w d => ?_)
 apply X.sr
 refine Ex.ba ?_
 iterate 2 refine Ex.pu ?_
 apply Ex.ns
 iterate 2 refine Ex.pu ?_
 refine Ex.ca (C_item_counts m l hl) ?_
 iterate 7 refine Ex.pu ?_
 apply Ex.ns
 iterate 6 refine Ex.pu ?_
 apply Ex.nil
 refine X.ret ?_
 refine RetQ.ret (.many (by decide) (.cons (.tmp rfl (LeV.eq ?_)) (.cons (.tmp rfl (LeV.eq ?_)) .nil)))
 all_goals (first | rfl | exact congrArg (AV.int .i64) q5)
set_option maxHeartbeats 4000000 in
theorem C_item_digits (N : Nat) (bs : List Int) (n : Int) (hN : bs.length = N) (h0 : 0 <= n) (h1 : n <= 9223372036854775807) (hb : ∀ x ∈ bs, 1 <= x) (hl : N <= 1000) : Fn Tryz.prog 232 [iv n, intsA bs] (.tup [intsA (dgL n bs).1, iv (dgL n bs).2]) := by
 induction N using Nat.strongRecOn generalizing bs n
 rename_i N ih
 refine Fn.go Tryz.func232 Tryz.ntmps232 (fun g w d => ?_)
 apply X.sr
 iterate 2 refine Ex.pu ?_
 apply Ex.nil
 apply X.seq
 apply X.sr
 iterate 3 refine Ex.pu ?_
 apply Ex.nil
 refine X.cd rfl (fun hc1 => ?_) (fun hc1 => ?_)
 ·have hbs : bs = [] := List.length_eq_zero_iff.1 (by omega)
  subst hbs
  have hD := dgL_nil n
  apply X.sr
  iterate 3 refine Ex.pu ?_
  apply Ex.nil
  refine X.ret ?_
  refine RetQ.imp (Imp.au (ts := [(4, intsA []), (5, iv n)]) (hs := [])) ?_
  refine RetQ.ret (.many (by decide) (.cons (.tmp rfl (LeV.eq ?_)) (.cons (.tmp rfl (LeV.eq ?_)) .nil)))
  all_goals (first | (rw [hD]; done) | (rw [hD]; rfl))
 obtain ⟨b, r, rfl⟩ : ∃ b r, bs = b :: r := by
  cases bs with
  | nil => simp at hc1
  | cons b r => exact ⟨b, r, rfl⟩
 have hD := dgL_cons n b r
 have hb1 := hb b (by simp)
 have hZ1 := dgL_nn (l := r) h0 (fun x hx => hb x (by simp [hx]))
 obtain ⟨hr0, hr1⟩ := hZ1
 have hrl := dgL_len r n
 have hNr : r.length + 1 = N := by simpa using hN
 have hg0 : (b :: r)[(0 : Int).toNat]? = some b := rfl
 apply X.skip
 apply X.sr
 iterate 2 refine Ex.pu ?_
 first
  | refine Ex.pur (P_slice_tail rfl rfl rfl sl27 ty3 (by omega) (by omega)) rfl ?_
  | refine Ex.pur (P_slice_slT rfl rfl sl27 ty3 (fun _ => rfl) (by omega) (by omega)) rfl ?_
 refine Ex.ca (ih r.length (by simp at hN; omega) r n rfl h0 h1 (fun x hx => hb x (by simp [hx])) (by simp at hN; omega)) ?_
 iterate 5 refine Ex.pu ?_
 apply Ex.nil
 apply X.seq
 refine X.drawQ [⟨0, 19, iv (dgL n r).2, []⟩, ⟨1, 20, intsA (b :: r), []⟩, ⟨2, 21, .ept intE b 0, [1]⟩, ⟨3, 22, iv b, [1, 2]⟩, ⟨4, 23, iv ((dgL n r).2 % b), [1, 2, 3, 0]⟩, ⟨6, 25, intsA (dgL n r).1, []⟩, ⟨8, 27, iv (dgL n r).2, []⟩, ⟨9, 28, intsA (b :: r), []⟩, ⟨10, 29, .ept intE b 0, [9]⟩, ⟨11, 30, iv b, [9, 10]⟩, ⟨12, 31, iv ((dgL n r).2 / b), [9, 10, 11, 8]⟩] [(5, [1, 2, 3, 0, 4]), (7, [1, 2, 3, 0, 4, 6, 5]), (13, [6, 5, 4, 3, 2, 1, 0, 7]), (14, [11, 10, 9, 8, 7, 6, 5, 4, 3, 2, 1, 0, 13, 12])] (fun j => match j with | 0 => ⟨[(0, iv n), (1, intsA (b :: r)), (6, intsA (dgL n r).1), (7, iv (dgL n r).2)], []⟩ | 1 => ⟨[(0, iv n), (1, intsA (b :: r)), (6, intsA (dgL n r).1), (7, iv (dgL n r).2), (24, .own 33)], [(33, .row intE ([(dgL n r).2 % b]) 3 1)]⟩ | 2 => ⟨[(0, iv n), (1, intsA (b :: r)), (6, intsA (dgL n r).1), (7, iv (dgL n r).2), (26, .own 33)], [(33, .row intE ([(dgL n r).2 % b] ++ (dgL n r).1) 3 1)]⟩ | 3 => ⟨[(0, iv n), (1, intsA (b :: r)), (6, intsA (dgL n r).1), (7, iv (dgL n r).2), (4, .own 33)], [(33, .row intE ([(dgL n r).2 % b] ++ (dgL n r).1) 3 1)]⟩ | _ => ⟨[(0, iv n), (1, intsA (b :: r)), (6, intsA (dgL n r).1), (7, iv (dgL n r).2), (4, .own 33), (5, iv ((dgL n r).2 / b))], [(33, .row intE ([(dgL n r).2 % b] ++ (dgL n r).1) 3 1)]⟩) mo (by kernel_rfl) (Imp.SP0 (Imp.au)) (fun j hj => ?_) (fun j c hc β hβ => ?_) ?_
 ·rcases j with _ | _ | _ | _ | _ | j
  ·refine ⟨.inr ⟨_, rfl, rfl, rfl, rfl, Pur.stepA Pur.au⟩, ?_⟩
   refine ⟨.inr ⟨_, rfl, rfl, rfl, rfl, Pur.stepA Pur.au⟩, ?_⟩
   refine ⟨.inr ⟨_, rfl, rfl, rfl, rfl, Pur.stepA Pur.au⟩, ?_⟩
   refine ⟨.inr ⟨_, rfl, rfl, rfl, rfl, Pur.stepA Pur.au⟩, ?_⟩
   refine ⟨.inr ⟨_, rfl, rfl, rfl, rfl, Pur.stepA Pur.au⟩, ?_⟩
   refine ⟨.inr ⟨_, rfl, rfl, rfl, rfl, Pur.stepA Pur.au⟩, ?_⟩
   refine ⟨.inr ⟨_, rfl, rfl, rfl, rfl, Pur.stepA Pur.au⟩, ?_⟩
   refine ⟨.inr ⟨_, rfl, rfl, rfl, rfl, Pur.stepA Pur.au⟩, ?_⟩
   refine ⟨.inr ⟨_, rfl, rfl, rfl, rfl, Pur.stepA Pur.au⟩, ?_⟩
   refine ⟨.inr ⟨_, rfl, rfl, rfl, rfl, Pur.stepA Pur.au⟩, ?_⟩
   refine ⟨.inr ⟨_, rfl, rfl, rfl, rfl, Pur.stepA Pur.au⟩, ?_⟩
   exact True.intro
  ·refine ⟨.inl rfl, ?_⟩
   refine ⟨.inl rfl, ?_⟩
   refine ⟨.inl rfl, ?_⟩
   refine ⟨.inl rfl, ?_⟩
   refine ⟨.inl rfl, ?_⟩
   refine ⟨.inr ⟨_, rfl, rfl, rfl, rfl, Pur.stepA Pur.au⟩, ?_⟩
   refine ⟨.inr ⟨_, rfl, rfl, rfl, rfl, Pur.stepA Pur.au⟩, ?_⟩
   refine ⟨.inr ⟨_, rfl, rfl, rfl, rfl, Pur.stepA Pur.au⟩, ?_⟩
   refine ⟨.inr ⟨_, rfl, rfl, rfl, rfl, Pur.stepA Pur.au⟩, ?_⟩
   refine ⟨.inr ⟨_, rfl, rfl, rfl, rfl, Pur.stepA Pur.au⟩, ?_⟩
   refine ⟨.inr ⟨_, rfl, rfl, rfl, rfl, Pur.stepA Pur.au⟩, ?_⟩
   exact True.intro
  ·refine ⟨.inl rfl, ?_⟩
   refine ⟨.inl rfl, ?_⟩
   refine ⟨.inl rfl, ?_⟩
   refine ⟨.inl rfl, ?_⟩
   refine ⟨.inl rfl, ?_⟩
   refine ⟨.inl rfl, ?_⟩
   refine ⟨.inr ⟨_, rfl, rfl, rfl, rfl, Pur.stepA Pur.au⟩, ?_⟩
   refine ⟨.inr ⟨_, rfl, rfl, rfl, rfl, Pur.stepA Pur.au⟩, ?_⟩
   refine ⟨.inr ⟨_, rfl, rfl, rfl, rfl, Pur.stepA Pur.au⟩, ?_⟩
   refine ⟨.inr ⟨_, rfl, rfl, rfl, rfl, Pur.stepA Pur.au⟩, ?_⟩
   refine ⟨.inr ⟨_, rfl, rfl, rfl, rfl, Pur.stepA Pur.au⟩, ?_⟩
   exact True.intro
  ·refine ⟨.inl rfl, ?_⟩
   refine ⟨.inl rfl, ?_⟩
   refine ⟨.inl rfl, ?_⟩
   refine ⟨.inl rfl, ?_⟩
   refine ⟨.inl rfl, ?_⟩
   refine ⟨.inl rfl, ?_⟩
   refine ⟨.inr ⟨_, rfl, rfl, rfl, rfl, Pur.stepA Pur.au⟩, ?_⟩
   refine ⟨.inr ⟨_, rfl, rfl, rfl, rfl, Pur.stepA Pur.au⟩, ?_⟩
   refine ⟨.inr ⟨_, rfl, rfl, rfl, rfl, Pur.stepA Pur.au⟩, ?_⟩
   refine ⟨.inr ⟨_, rfl, rfl, rfl, rfl, Pur.stepA Pur.au⟩, ?_⟩
   refine ⟨.inr ⟨_, rfl, rfl, rfl, rfl, Pur.stepA Pur.au⟩, ?_⟩
   exact True.intro
  ·refine ⟨.inl rfl, ?_⟩
   refine ⟨.inl rfl, ?_⟩
   refine ⟨.inl rfl, ?_⟩
   refine ⟨.inl rfl, ?_⟩
   refine ⟨.inl rfl, ?_⟩
   refine ⟨.inl rfl, ?_⟩
   refine ⟨.inl rfl, ?_⟩
   refine ⟨.inl rfl, ?_⟩
   refine ⟨.inl rfl, ?_⟩
   refine ⟨.inl rfl, ?_⟩
   refine ⟨.inl rfl, ?_⟩
   exact True.intro
  ·exact absurd (show j + 5 <= 4 from hj) (by omega)
 ·rcases j with _ | _ | _ | _ | j
  ·obtain rfl : (5, [1, 2, 3, 0, 4]) = c := by injection hc
   refine Step1.mk rfl (StepM.pre (st0 := ⟨[(19, iv (dgL n r).2), (20, intsA (b :: r)), (21, .ept intE b 0), (22, iv b), (23, iv ((dgL n r).2 % b)), (25, .ifb (β 6) (intsA (dgL n r).1)), (27, .ifb (β 8) (iv (dgL n r).2)), (28, .ifb (β 9) (intsA (b :: r))), (29, .ifb (β 10) (.ept intE b 0)), (30, .ifb (β 11) (iv b)), (31, .ifb (β 12) (iv ((dgL n r).2 / b))), (0, iv n), (1, intsA (b :: r)), (6, intsA (dgL n r).1), (7, iv (dgL n r).2)], []⟩) (Imp.ib) ?_)
   refine StepM.imp (StepA.toM (A_buildSlice (k := 33) (enc := intE) (l := [(dgL n r).2 % b]) sl27 ty3 ze3 (by decide) rfl rfl rfl rfl (by decide) (by decide) (fun _ => rfl) rfl) rfl rfl) (Imp.ib)
  ·obtain rfl : (7, [1, 2, 3, 0, 4, 6, 5]) = c := by injection hc
   refine Step1.mk rfl (StepM.pre (st0 := ⟨[(19, iv (dgL n r).2), (20, intsA (b :: r)), (21, .ept intE b 0), (22, iv b), (23, iv ((dgL n r).2 % b)), (25, intsA (dgL n r).1), (27, .ifb (β 8) (iv (dgL n r).2)), (28, .ifb (β 9) (intsA (b :: r))), (29, .ifb (β 10) (.ept intE b 0)), (30, .ifb (β 11) (iv b)), (31, .ifb (β 12) (iv ((dgL n r).2 / b))), (0, iv n), (1, intsA (b :: r)), (6, intsA (dgL n r).1), (7, iv (dgL n r).2), (24, .own 33)], [(33, .row intE ([(dgL n r).2 % b]) 3 1)]⟩) (Imp.ib) ?_)
   refine StepM.imp (M_append_sl rfl rfl rfl SlK.h TiK.h (by decide) (by decide) (fun _ => rfl) (fun _ => rfl) (by first | omega | (simp; done) | (simp; omega) | (simp_all; omega)) rfl) (Imp.ib)
  ·obtain rfl : (13, [6, 5, 4, 3, 2, 1, 0, 7]) = c := by injection hc
   refine Step1.mk rfl (StepM.pre (st0 := ⟨[(19, iv (dgL n r).2), (20, intsA (b :: r)), (21, .ept intE b 0), (22, iv b), (23, iv ((dgL n r).2 % b)), (25, intsA (dgL n r).1), (27, .ifb (β 8) (iv (dgL n r).2)), (28, .ifb (β 9) (intsA (b :: r))), (29, .ifb (β 10) (.ept intE b 0)), (30, .ifb (β 11) (iv b)), (31, .ifb (β 12) (iv ((dgL n r).2 / b))), (0, iv n), (1, intsA (b :: r)), (6, intsA (dgL n r).1), (7, iv (dgL n r).2), (26, .own 33)], [(33, .row intE ([(dgL n r).2 % b] ++ (dgL n r).1) 3 1)]⟩) (Imp.ib) ?_)
   refine StepM.imp (StepA.toM (Pur.stepA (P_assign rfl)) rfl rfl) (Imp.ib)
  ·obtain rfl : (14, [11, 10, 9, 8, 7, 6, 5, 4, 3, 2, 1, 0, 13, 12]) = c := by injection hc
   refine Step1.mk rfl (StepM.pre (st0 := ⟨[(19, iv (dgL n r).2), (20, intsA (b :: r)), (21, .ept intE b 0), (22, iv b), (23, iv ((dgL n r).2 % b)), (25, intsA (dgL n r).1), (27, iv (dgL n r).2), (28, intsA (b :: r)), (29, .ept intE b 0), (30, iv b), (31, iv ((dgL n r).2 / b)), (0, iv n), (1, intsA (b :: r)), (6, intsA (dgL n r).1), (7, iv (dgL n r).2), (4, .own 33)], [(33, .row intE ([(dgL n r).2 % b] ++ (dgL n r).1) 3 1)]⟩) (Imp.ib) ?_)
   refine StepM.imp (StepA.toM (Pur.stepA (P_assign rfl)) rfl rfl) (Imp.ib)
  ·exact absurd hc (by simp)
 refine X.ret ?_
 refine RetQ.imp (Imp.freeze (k := 33) rfl) ?_
 refine RetQ.ret (.many (by decide) (.cons (.tmp rfl (LeV.eq ?_)) (.cons (.tmp rfl (LeV.eq ?_)) .nil)))
 all_goals (first | (rw [hD]; done) | (rw [hD]; rfl))
set_option maxHeartbeats 4000000 in
theorem C_item_Of (m : Mn) (l : List Sg) (n : Int) (hl : l.length <= 1000) : Fn Tryz.prog 175 [mnA m, sgsA l, iv n] (.tup [intsA (iofD m l n), intsA (iofM m l n), iv (iofE m l n)]) := by
 have hZ1 := ic_b m l
 obtain ⟨q1, q2, q3, q4, q5⟩ := hZ1
 have q6 := mulB q1 q2 q3 q4
 refine Fn.go Tryz.func175 Tryz.ntmps175 (fun g w d => ?_)
 apply X.sr
 refine Ex.ba ?_
 iterate 3 refine Ex.pu ?_
 apply Ex.ns
 iterate 2 refine Ex.pu ?_
 refine Ex.ca (C_item_counts m l hl) ?_
 iterate 7 refine Ex.pu ?_
 apply Ex.nil
 apply X.seq
 apply X.sr
 iterate 2 refine Ex.pu ?_
 apply Ex.nil
 refine X.cd rfl (fun hc1 => ?_) (fun hc1 => ?_)
 ·have hE : ictE m l = iofE m l n := by unfold iofE; rw [if_neg hc1]
  have hD := (iofD_n (n := n) (by rw [← hE]; exact hc1)).symm
  have hM := (iofM_n (n := n) (by rw [← hE]; exact hc1)).symm
  apply X.sr
  iterate 4 refine Ex.pu ?_
  apply Ex.nil
  refine X.ret ?_
  refine RetQ.imp (Imp.au (ts := [(6, intsA []), (7, intsA []), (8, iv (ictE m l))]) (hs := [])) ?_
  refine RetQ.ret (.many (by decide) (.cons (.tmp rfl (LeV.eq ?_)) (.cons (.tmp rfl (LeV.eq ?_)) (.cons (.tmp rfl (LeV.eq ?_)) .nil))))
  all_goals (first | exact congrArg intsA hD | exact congrArg intsA hM | exact congrArg (AV.int .i64) hE)
 apply X.skip
 apply X.seq
 apply X.sr
 iterate 2 refine Ex.pu ?_
 refine ExF.at 2 ?_
 refine ExF.pu ?_
 iterate 5 refine ExF.gi ?_
 refine ExF.done ?_
 refine Ex.pu ?_
 apply Ex.nil
 refine X.cd rfl (fun hc2 => ?_) (fun hc2 => ?_)
 ·have hE : 2 = iofE m l n := by unfold iofE; rw [if_pos hc1, if_pos (by omega)]
  have hD := (iofD_n (m := m) (l := l) (n := n) (by omega)).symm
  have hM := (iofM_n (m := m) (l := l) (n := n) (by omega)).symm
  apply X.sr
  iterate 3 refine Ex.pu ?_
  apply Ex.nil
  refine X.ret ?_
  refine RetQ.imp (Imp.au (ts := [(6, intsA []), (7, intsA []), (8, iv 2)]) (hs := [])) ?_
  refine RetQ.ret (.many (by decide) (.cons (.tmp rfl (LeV.eq ?_)) (.cons (.tmp rfl (LeV.eq ?_)) (.cons (.tmp rfl (LeV.eq ?_)) .nil))))
  all_goals (first | exact congrArg intsA hD | exact congrArg intsA hM | exact congrArg (AV.int .i64) hE)
 have hE : 0 = iofE m l n := by unfold iofE; rw [if_pos hc1, if_neg (by omega)]
 have hp := iof_prog hE.symm
 have hZ2 := ic_y hc1
 obtain ⟨ha, hb⟩ := hZ2
 have hi0 := ict_0 hc1
 have hcp := pow2_tab hi0.2.2.2.1
 rw [← hi0.2.2.2.2.1] at hcp
 rw [ha, hb] at hp
 rw [ha] at hi0
 rw [hb] at hcp
 have hDot := C_dot_Of m l hl (n / icb m l % ica m l)
 rw [hp.1, hp.2.1] at hDot
 have hCol := C_color_Of m l (n % icb m l) hl
 rw [hp.2.2.1, hp.2.2.2] at hCol
 have hDg := C_item_digits 2 [ica m l, icb m l] n rfl (by omega) (by omega) (fun x hx => by simp at hx; omega) (by decide)
 rw [dgL_two] at hDg
 dsimp only at hDg
 have hg0 : [n / icb m l % ica m l, n % icb m l][(0 : Int).toNat]? = some (n / icb m l % ica m l) := rfl
 have hg1 : [n / icb m l % ica m l, n % icb m l][(1 : Int).toNat]? = some (n % icb m l) := rfl
 apply X.skip
 apply X.sr
 iterate 3 refine Ex.pu ?_
 refine Ex.bs intE [ica m l, icb m l] ?_
 refine Ex.imp (Imp.freeze (k := 37) rfl) ?_
 refine Ex.ca hDg ?_
 iterate 5 refine Ex.pu ?_
 apply Ex.nil
 apply X.seq
 refine X.dw [6,11,41,42,43,44,45,46,47,48,49] [0,0,0,4,12,31,63,127,127,255,1023] mo ?_
 iterate 5 refine ChM.pu ?_
 refine ChM.ca hDot ?_
 iterate 5 refine ChM.pu ?_
 refine ChM.tl ?_
 apply Ex.nil
 apply X.seq
 apply X.sr
 iterate 2 refine Ex.pu ?_
 apply Ex.nil
 refine X.cd rfl (fun hc3 => ?_) (fun hc3 => ?_)
 ·exact absurd rfl hc3
 apply X.skip
 apply X.seq
 refine X.dw [7,11,53,54,55,56,57,58,59,60,61] [0,0,0,4,12,31,63,127,127,255,1023] mo ?_
 iterate 5 refine ChM.pu ?_
 refine ChM.ca hCol ?_
 iterate 5 refine ChM.pu ?_
 refine ChM.tl ?_
 apply Ex.nil
 apply X.seq
 apply X.sr
 iterate 2 refine Ex.pu ?_
 apply Ex.nil
 refine X.cd rfl (fun hc4 => ?_) (fun hc4 => ?_)
 ·exact absurd rfl hc4
 apply X.skip
 apply X.sr
 iterate 5 refine Ex.pu ?_
 apply Ex.nil
 refine X.ret ?_
 refine RetQ.ret (.many (by decide) (.cons (.tmp rfl (LeV.eq ?_)) (.cons (.tmp rfl (LeV.eq ?_)) (.cons (.tmp rfl (LeV.eq ?_)) .nil))))
 all_goals (first | rfl | exact congrArg (AV.int .i64) hE)
end Go.Rse
namespace Go.Rse
open Go Go.Proofs
attribute [local irreducible] Pur StepA StepM Ex X Fn Imp LeV LeB FnO It YStep
theorem ict_lo {m : Mn} {l : List Sg} (h : ckD m l = 0) {q : Int} (h2 : cntK 1 (kL m l) = q) (h3 : q <= 64) : 0 = ictE m l /\ q = ictV m l := by
 have := ict_law h
 rw [h2, if_neg (by omega), if_neg (by omega)] at this
 exact ⟨this.1.symm, this.2.symm⟩
attribute [local irreducible] cntV cntE colN colE ictE ictV ica icb dgL iofE iofD iofM ckD ruleD twos prL kL mnsD ofD digP
end Go.Rse
namespace Go.Rse
open Go Go.Proofs Go.RowKit
attribute [local irreducible] Pur StepA StepM Ex X Fn Imp LeV LeB FnO It YStep
theorem itmV_len (m : Mn) (l : List Sg) (ch mi : List Int) : (itmV m l ch mi).length <= l.length := by
 unfold itmV; split
 ·rw [itK_nt]; exact ntN_le l _
 ·simp
attribute [local irreducible] itmE itmV ictE ictV iofE iofD iofM ruleD ckD twos prL
end Go.Rse
namespace Go.Rse
open Go Go.Proofs
attribute [local irreducible] Pur StepA StepM Ex X Fn Imp LeV LeB FnO It YStep FnW FnOW
attribute [local irreducible] apV apE ckM perfL ckIE ckIX
end Go.Rse
namespace Go.Rse
open Go Go.Proofs
attribute [local irreducible] Pur StepA StepM Ex X Fn Imp LeV LeB FnO It YStep FnW FnOW
end Go.Rse
namespace Go.Rse
open Go Go.Proofs
attribute [local irreducible] Pur StepA StepM Ex X Fn Imp LeV LeB FnO It YStep FnW FnOW
attribute [local irreducible] apV apE ckM perfL ckIE ckIX
end Go.Rse
namespace Go.Rse
open Go Go.Proofs
theorem LeV.agg {cs cs' : List AV} (h : LeL cs cs') : LeV (.agg cs) (.agg cs') := fun I ρ v hv => by
 cases hv with
 | agg _ vs hl hvv =>
  obtain ⟨h1, h2⟩ := h.rvl (vs := vs) ⟨hl, hvv⟩
  exact .agg cs' vs h1 h2
section
variable {m : Mn} {l : List Sg}
end
theorem map_tk {l : List Ite} {n : Nat} {x : Ite} (h : l[n]? = some x) : (l.take n).map (·.Dur) ++ [x.Dur] = (l.take (n + 1)).map (·.Dur) := by
 rw [List.take_add_one, h]; simp
end Go.Rse
namespace Go.Rse
open Go Go.Proofs
attribute [local irreducible] Pur StepA StepM Ex X Fn Imp LeV LeB FnO It YStep FnW FnOW
attribute [local irreducible] ckD ruleD twos prL itmV itmE
end Go.Rse
namespace Go.Rse
open Go Go.Proofs
attribute [local irreducible] Pur StepA StepM Ex X Fn Imp LeV LeB FnO It YStep FnW FnOW
end Go.Rse
namespace Go.Rse
open Go Go.Proofs
section
variable {m : Mn} {l : List Sg}
end
end Go.Rse
