/-
  Cells read as a bool.
-/
import Derived.Test.YtggdlojopkoegaaGreatDoorHRow1
namespace Go.Rse
open Go Go.RowKit Go.WideShapes
section
variable {H : Type} {ench : TypeId × Value -> H} {P : Program} {w : World} {sp : Nat -> Bool} {held : Bool} {r : Reach} {b0 : Nat}
theorem open_bool {t : TypeId} {v : Value} {dd : DataW H} {ps : List MemPlace} {ρ : Nat -> Value} (hu : P.underlying t = some .bool) (hv : Value.okWide P w r b0 t v) (_ : DataW.Trod ench P w 0 sp held t v dd ps) : ∃ b, RV (wIm w) ρ (.bool b) v := by
 obtain ⟨b, rfl⟩ := okWide_bool hu hv;exact ⟨b, .bool b⟩
end
end Go.Rse
