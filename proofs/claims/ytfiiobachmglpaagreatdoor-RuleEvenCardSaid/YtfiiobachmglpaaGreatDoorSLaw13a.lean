/-
  Walks: the statements on items under given meanings and on their combinations.
-/
import Derived.Test.YtfiiobachmglpaaGreatDoorSItem2
import Derived.Test.YtfiiobachmglpaaGreatDoorSItem4
import Derived.Test.YtfiiobachmglpaaGreatDoorSKit1
set_option linter.unusedSimpArgs false
set_option linter.unusedVariables false
namespace Go.Rse
open Go Go.Proofs Go.RowKit
attribute [local irreducible] Pur StepA StepM Ex X ExG Fn Imp LeV LeB FnO It YStep
theorem ckDR {m : Mn} {l : List Sg} (h : ckR m l = 0) : ckD m l = 0 := by rw [ckD_R]; exact h
theorem prR {m : Mn} {l : List Sg} {pr : List Int} (h : ckR m l = 0) (h2 : pairL m l = pr) : prL m l = pr := by unfold prL; rw [if_pos (ckDR h)]; exact h2
theorem itmV_len (m : Mn) (l : List Sg) (ch mi : List Int) : (itmV m l ch mi).length <= l.length := by
 unfold itmV; split
 ·rw [itK_nt]; exact ntN_le l _
 ·simp
attribute [local irreducible] itmE itmV ruleD ckD twos prL
end Go.Rse
