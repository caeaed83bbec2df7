/-
  Walks: the program's combinations of meanings.
-/
import Derived.Test.YtfiiobachmglpaaGreatDoorSItem1
import Derived.Test.YtfiiobachmglpaaGreatDoorSColB
import Derived.Test.YtfiiobachmglpaaGreatDoorSLogB
set_option linter.unusedSimpArgs false
set_option linter.unusedVariables false
namespace Go.Rse
open Go Go.Proofs
attribute [local irreducible] Pur StepA StepM Ex X ExG Fn Imp LeV LeB FnO It YStep
attribute [local irreducible] ckD ruleD twos prL
set_option maxHeartbeats 4000000 in
theorem C_item_Rule (m : Mn) (l : List Sg) (hl : l.length <= 1000) : Fn Tryz.prog 32 [mnA m, sgsA l] (.tup [intsA (if ckD m l = 0 then ruleD m l else []), intsA (twos (prL m l).length), iv (ckD m l)]) := by
 refine Fn.go Tryz.func32 Tryz.ntmps32 (fun g w d => ?_)
 apply X.sr
 refine Ex.ba ?_
 iterate 3 refine Ex.pu ?_
 apply Ex.ns
 iterate 2 refine Ex.pu ?_
 refine Ex.ca (C_dot_Rule m l hl) ?_
 iterate 5 refine Ex.pu ?_
 apply Ex.nil
 apply X.seq
 apply X.sr
 iterate 2 refine Ex.pu ?_
 apply Ex.nil
 refine X.cd rfl (fun hc1 => ?_) (fun hc1 => ?_)
 ·have ht : [] = twos (prL m l).length := by rw [prL_no hc1]; unfold twos; rfl
  have hr : [] = (if ckD m l = 0 then ruleD m l else []) := by rw [if_neg hc1]
  apply X.sr
  iterate 4 refine Ex.pu ?_
  apply Ex.nil
  refine X.ret ?_
  refine RetQ.imp (Imp.au (ts := [(4, intsA []), (5, intsA []), (6, iv (ckD m l))]) (hs := [])) ?_
  refine RetQ.ret (.many (by decide) (.cons (.tmp rfl (LeV.eq ?_)) (.cons (.tmp rfl (LeV.eq ?_)) (.cons (.tmp rfl (LeV.eq ?_)) .nil))))
  all_goals (first | exact congrArg intsA ht | exact congrArg intsA hr | rfl)
 apply X.skip
 apply X.sr
 iterate 2 refine Ex.pu ?_
 refine Ex.ca (C_color_Rule m l hl) ?_
 iterate 5 refine Ex.pu ?_
 apply Ex.nil
 apply X.seq
 apply X.sr
 iterate 2 refine Ex.pu ?_
 apply Ex.nil
 refine X.cd rfl (fun hc2 => ?_) (fun hc2 => ?_)
 ·exact absurd hc1 hc2
 apply X.skip
 apply X.sr
 iterate 5 refine Ex.pu ?_
 apply Ex.nil
 refine X.ret ?_
 refine RetQ.ret (.many (by decide) (.cons (.tmp rfl (LeV.eq ?_)) (.cons (.tmp rfl (LeV.eq ?_)) (.cons (.tmp rfl (LeV.eq ?_)) .nil))))
 all_goals (first | rfl | exact congrArg (AV.int .i64) hc1.symm)
end Go.Rse
