/-
  Cells read as spellings.
-/
import Derived.Test.YteecbmgddacioaaGreatRow2
import Derived.Test.YteecbmgddacioaaGreatSpell3
namespace Go.Rse
open Go
def spD (cs : List Value) : Sp := ⟨vI (cs.getD 0 .nilIface), vB (cs.getD 1 .nilIface), vB (cs.getD 2 .nilIface), vB (cs.getD 3 .nilIface), vI (cs.getD 4 .nilIface)⟩
theorem spD_ok : ∀ cs, fits [1, 2, 2, 2, 1] cs → spE (spD cs) = cs.map avV := fun cs h => by
  obtain ⟨hl, hk⟩ := h
  match cs, hl with
  | [a0, a1, a2, a3, a4], _ =>
    obtain ⟨n0, rfl, -⟩ := (hk 0 1 a0 rfl rfl).1 rfl
    obtain ⟨n1, rfl⟩ := (hk 1 2 a1 rfl rfl).2 rfl
    obtain ⟨n2, rfl⟩ := (hk 2 2 a2 rfl rfl).2 rfl
    obtain ⟨n3, rfl⟩ := (hk 3 2 a3 rfl rfl).2 rfl
    obtain ⟨n4, rfl, -⟩ := (hk 4 1 a4 rfl rfl).1 rfl
    rfl
end Go.Rse
