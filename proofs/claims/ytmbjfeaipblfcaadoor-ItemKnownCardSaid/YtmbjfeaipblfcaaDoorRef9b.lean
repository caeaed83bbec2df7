/-
  Walks: the reference's combinations, cuts and additions; the statement on chosen meanings.
-/
import Derived.Test.YtmbjfeaipblfcaaDoorDotB
import Derived.Test.YtmbjfeaipblfcaaDoorRefA
import Derived.Test.YtmbjfeaipblfcaaDoorKit1
namespace Go.Rse
open Go Go.Proofs
set_option linter.unusedVariables false
set_option linter.unusedSimpArgs false
attribute [local irreducible] Pur StepA StepM Ex X ExG Fn Imp LeV LeB FnO It YStep
theorem ofL_len (m : Mn) (l : List Sg) (n : Int) : (ofL m l n).length ≤ l.length := by
  unfold ofL; split
  · rw [ofD, ofRow_len]; exact mnsD_len m l
  · simp
theorem mkC_len (m : Mn) (l : List Sg) (ch : List Int) : (mkC m l ch).length ≤ l.length := by
  unfold mkC; split
  · exact (mkK_len ch l l.length).2.1
  · simp
theorem mkA_len (m : Mn) (l : List Sg) (ch : List Int) : (mkA m l ch).length ≤ l.length := by
  unfold mkA; split
  · have := mkK_len ch l l.length; omega
  · simp
attribute [local irreducible] mnsD ofRow ofV ofL ofE ofD cntE cntV ckD
end Go.Rse
