/-
  zct facts on the program, for the rows.
-/
import Derived.Test.YtkpbljifckjeoaaGreatDoorChecked
import Derived.Test.YtkpbljifckjeoaaGreatDoorRows
import Derived.Test.YtkpbljifckjeoaaGreatDoorYRow3
namespace Go.Proofs.YtkpbljifckjeoaaGreatDoor
open Go Go.Proofs
theorem Tryzown : ownKnob Tryz.prog.godebug = none := by kernel_rfl
theorem TryzlaidOut : laidOutB Tryz.prog = true := by kernel_rfl
theorem intD_rngs {c : List (List Value)} (h : ∀ cs ∈ c, Go.Rse.fits [1] cs) : ∀ x, x ∈ c.map Go.Rse.intD -> -9223372036854775808 <= x /\ x <= 9223372036854775807 := fun x hx => by
 obtain ⟨cs, hcs, rfl⟩ := List.mem_map.1 hx;obtain ⟨hl, hk⟩ := h cs hcs
 match cs, hl with
 | [a], _ =>
  obtain ⟨n, rfl, hn⟩ := (hk 0 1 a rfl rfl).1 rfl;exact Go.Rse.i64_rng hn
end Go.Proofs.YtkpbljifckjeoaaGreatDoor
