import Derived.Test.YtkpbljifckjeoaaGreatDoorCards
import Derived.Test.YtkpbljifckjeoaaGreatDoorURow4
namespace Go.Proofs.YtkpbljifckjeoaaGreatDoor
open Go
theorem writingsHabits_gb : false = Rows.writingsHabitsRow.goesBy Tryz.pinned.checked.prog := by kernel_rfl
end Go.Proofs.YtkpbljifckjeoaaGreatDoor
