/-
  Closed facts on the program, for the rows.
-/
import Derived.Test.YteecbmgddacioaaChecked
import Derived.Test.YteecbmgddacioaaRows
import Derived.Test.YteecbmgddacioaaRow3
import Derived.Test.YteecbmgddacioaaTy
namespace Go.Proofs.Yteecbmgddacioaa
open Go Go.Proofs
theorem Tryown : ownKnob Try.prog.godebug = none := by kernel_rfl
theorem TrylaidOut : laidOutB Try.prog = true := by kernel_rfl
end Go.Proofs.Yteecbmgddacioaa
