import Derived.Test.YtggdlojopkoegaaGreatDoorCards
import Derived.Test.YtggdlojopkoegaaGreatDoorARow4
namespace Go.Proofs.YtggdlojopkoegaaGreatDoor
open Go
theorem writeKnown_gb : false = Rows.writeKnownRow.goesBy Tryz.pinned.checked.prog := by kernel_rfl
end Go.Proofs.YtggdlojopkoegaaGreatDoor
