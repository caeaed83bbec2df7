import Derived.Test.YtkpbljifckjeoaaGreatDoorCards
import Derived.Test.YtkpbljifckjeoaaGreatDoorYRow4
namespace Go.Proofs.YtkpbljifckjeoaaGreatDoor
open Go
theorem writingsRead_gb : false = Rows.writingsReadRow.goesBy Tryz.pinned.checked.prog := by kernel_rfl
end Go.Proofs.YtkpbljifckjeoaaGreatDoor
