import Derived.Test.YtggdlojopkoegaaGreatDoorCards
import Derived.Test.YtggdlojopkoegaaGreatDoorHRow4
namespace Go.Proofs.YtggdlojopkoegaaGreatDoor
open Go
theorem writeAlone_gb : false = Rows.writeAloneRow.goesBy Tryz.pinned.checked.prog := by kernel_rfl
end Go.Proofs.YtggdlojopkoegaaGreatDoor
