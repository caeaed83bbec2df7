import Derived.Test.YtkpbljifckjeoaaGreatDoorCards
import Derived.Test.YtkpbljifckjeoaaGreatDoorVRow4
namespace Go.Proofs.YtkpbljifckjeoaaGreatDoor
open Go
theorem writingsBest_gb : false = Rows.writingsBestRow.goesBy Tryz.pinned.checked.prog := by kernel_rfl
end Go.Proofs.YtkpbljifckjeoaaGreatDoor
