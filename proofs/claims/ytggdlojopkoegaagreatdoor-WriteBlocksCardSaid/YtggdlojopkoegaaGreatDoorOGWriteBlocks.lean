import Derived.Test.YtggdlojopkoegaaGreatDoorCards
import Derived.Test.YtggdlojopkoegaaGreatDoorORow4
namespace Go.Proofs.YtggdlojopkoegaaGreatDoor
open Go
theorem writeBlocks_gb : false = Rows.writeBlocksRow.goesBy Tryz.pinned.checked.prog := by kernel_rfl
end Go.Proofs.YtggdlojopkoegaaGreatDoor
