/-
  Cells read as a bool.
-/
import Derived.Test.YtbopkhoalndflaaGreatDoorYRow1
set_option linter.all false
namespace Go.Rse
open Go Go.RowKit Go.WideShapes
section
variable{H:Type}{ench:TypeId×Value->H}{P:Program}{w:World}{sp:Nat->Bool}{held:Bool}{r:Reach}{b0:Nat}
theorem open_str{t:TypeId}{v:Value}{dd:DataW H}{ps:List MemPlace}{ρ:Nat->Value}(Z:P.underlying t=some .string)(hv:Value.okWide P w r b0 t v)(_:DataW.Trod ench P w 0 sp held t v dd ps):∃s,RV (wIm w) ρ (.str s) v:=by
 obtain⟨s,rfl⟩:=okWide_string Z hv;exact⟨s,.str s⟩
end
end Go.Rse
