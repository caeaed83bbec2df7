import Derived.Test.YtkpbljifckjeoaaGreatDoorCards
import Derived.Test.YtkpbljifckjeoaaGreatDoorQRow4
namespace Go.Proofs.YtkpbljifckjeoaaGreatDoor
open Go
theorem writingsKnown_gb : false = Rows.writingsKnownRow.goesBy Tryz.pinned.checked.prog := by kernel_rfl
end Go.Proofs.YtkpbljifckjeoaaGreatDoor
