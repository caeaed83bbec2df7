/-
  Cells read as beats and habits.
-/
import Derived.Test.YtggdlojopkoegaaGreatDoorHRow2
import Derived.Test.YtggdlojopkoegaaGreatDoorHJSlc2
namespace Go.Rse
open Go
def hbD (cs : List Value) : Hb := ⟨vB (cs.getD 0 .nilIface), vB (cs.getD 1 .nilIface), vB (cs.getD 2 .nilIface)⟩
theorem hbD_ok : ∀ cs, fits [2, 2, 2] cs -> hbE (hbD cs) = cs.map avV := fun cs h => by
 obtain ⟨hl, hk⟩ := h
 match cs, hl with
 | [a0, a1, a2], _ =>
  obtain ⟨n0, rfl⟩ := (hk 0 2 a0 rfl rfl).2 rfl;obtain ⟨n1, rfl⟩ := (hk 1 2 a1 rfl rfl).2 rfl;obtain ⟨n2, rfl⟩ := (hk 2 2 a2 rfl rfl).2 rfl;rfl
end Go.Rse
