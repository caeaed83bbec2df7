/-
  Cells read as items.
-/
import Derived.Test.YtfiiobachmglpaaGreatDoorDRowA
import Derived.Test.YtfiiobachmglpaaGreatDoorDIteA
namespace Go.Rse
open Go
def itD (cs : List Value) : Ite := ⟨vI (cs.getD 0 .nilIface), vI (cs.getD 1 .nilIface), vB (cs.getD 2 .nilIface), vB (cs.getD 3 .nilIface), vB (cs.getD 4 .nilIface), vI (cs.getD 5 .nilIface), ⟨vI (cs.getD 6 .nilIface), vI (cs.getD 7 .nilIface)⟩, ⟨vI (cs.getD 8 .nilIface), vI (cs.getD 9 .nilIface)⟩, ⟨vI (cs.getD 10 .nilIface), vI (cs.getD 11 .nilIface)⟩⟩
theorem itD_ok : ∀ cs, fits [1, 1, 2, 2, 2, 1, 1, 1, 1, 1, 1, 1] cs -> itE (itD cs) = cs.map avV := fun cs h => by
 obtain ⟨hl, hk⟩ := h
 match cs, hl with
 | [a0, a1, a2, a3, a4, a5, a6, a7, a8, a9, a10, a11], _ =>
  obtain ⟨n0, rfl, -⟩ := (hk 0 1 a0 rfl rfl).1 rfl
  obtain ⟨n1, rfl, -⟩ := (hk 1 1 a1 rfl rfl).1 rfl
  obtain ⟨n2, rfl⟩ := (hk 2 2 a2 rfl rfl).2 rfl
  obtain ⟨n3, rfl⟩ := (hk 3 2 a3 rfl rfl).2 rfl
  obtain ⟨n4, rfl⟩ := (hk 4 2 a4 rfl rfl).2 rfl
  obtain ⟨n5, rfl, -⟩ := (hk 5 1 a5 rfl rfl).1 rfl
  obtain ⟨n6, rfl, -⟩ := (hk 6 1 a6 rfl rfl).1 rfl
  obtain ⟨n7, rfl, -⟩ := (hk 7 1 a7 rfl rfl).1 rfl
  obtain ⟨n8, rfl, -⟩ := (hk 8 1 a8 rfl rfl).1 rfl
  obtain ⟨n9, rfl, -⟩ := (hk 9 1 a9 rfl rfl).1 rfl
  obtain ⟨n10, rfl, -⟩ := (hk 10 1 a10 rfl rfl).1 rfl
  obtain ⟨n11, rfl, -⟩ := (hk 11 1 a11 rfl rfl).1 rfl
  rfl
end Go.Rse
