/-
  Walks: the statement on combinations with different numbers.
-/
import Derived.Test.YtmbjfeaipblfcaaGreatDoorTRun4
import Derived.Test.YtmbjfeaipblfcaaGreatDoorTCmb1
import Derived.Test.YtmbjfeaipblfcaaGreatDoorTItem3
import Derived.Test.YtmbjfeaipblfcaaGreatDoorTItem4
import Derived.Test.YtmbjfeaipblfcaaGreatDoorTLaw13c
namespace Go.Rse
open Go Go.Proofs
set_option linter.unusedVariables false
set_option linter.unusedSimpArgs false
attribute [local irreducible] Pur StepA StepM Ex X ExG Fn Imp LeV LeB FnO It YStep
theorem roL_ck {m : Mn} (hM : ckM m = 0) (nums : List Int) (most : Int) : ckD m (roL m nums most) = 0 := gr_ck hM (roK_gr m nums most nums.length).1
theorem roL_len (m : Mn) (nums : List Int) {most : Int} (h0 : 0 ≤ most) : ((roL m nums most).length : Int) ≤ most := roK_len m nums h0 nums.length
attribute [local irreducible] roL roK ruleD iofD iofM ictV ictE mnsD prL twos
theorem C_tactuslaw13_made (nums : List Int) (n : Int) (hr : ∀ x, x ∈ nums → -9223372036854775808 ≤ x ∧ x ≤ 9223372036854775807) (hnl : nums.length ≤ maxLen) (hn : -9223372036854775808 ≤ n ∧ n ≤ 9223372036854775807) : Fn Tryz.prog 30 [intsA nums, iv n] (.tup [mnA (mMk n), sgsA (roL (mMk n) nums 24)]) := by
  have hm := C_tactuskit_Mens n hn
  generalize mMk n = m at hm ⊢
  refine Fn.go Tryz.func30 Tryz.ntmps30 (fun g w d => ?_)
  refine X.seq ?_
  refine X.region ?_
  refine Ex.al ?_
  refine Ex.pu ?_
  refine Ex.nil ?_
  refine X.seq ?_
  refine X.region ?_
  refine Ex.pu ?_
  refine Ex.ca hm ?_
  refine Ex.al ?_
  refine Ex.mo ?_
  refine Ex.nil ?_
  refine X.seq ?_
  refine X.region ?_
  iterate 2 refine Ex.pu ?_
  refine Ex.ca (C_tactuskit_RunOf m nums 24 (by decide) (by decide) hr hnl) ?_
  refine Ex.pu ?_
  refine Ex.nil ?_
  refine X.seq ?_
  refine X.region ?_
  iterate 2 refine Ex.pu ?_
  refine Ex.mo ?_
  refine Ex.pu ?_
  refine Ex.nil ?_
  refine X.ret ?_
  refine RetQ.ret (.many (by decide) (.cons (.cellA rfl rfl rfl rfl ty23 (LeV.eq ?_)) (.cons (.tmp rfl (LeV.eq ?_)) .nil)))
  all_goals (first | rfl | (simp_all; done))
end Go.Rse
