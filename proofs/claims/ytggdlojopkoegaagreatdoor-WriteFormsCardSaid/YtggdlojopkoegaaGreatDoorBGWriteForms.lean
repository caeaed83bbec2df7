import Derived.Test.YtggdlojopkoegaaGreatDoorCards
import Derived.Test.YtggdlojopkoegaaGreatDoorBRow4
namespace Go.Proofs.YtggdlojopkoegaaGreatDoor
open Go
theorem writeForms_gb : false = Rows.writeFormsRow.goesBy Tryz.pinned.checked.prog := by kernel_rfl
end Go.Proofs.YtggdlojopkoegaaGreatDoor
