/-
  A guarded operation whose guard is known to hold.
-/
import Derived.Test.YteecbmgddacioaaGreatRse27
namespace Go.Rse
open Go Go.RowKit
set_option linter.unusedVariables false
section
variable {P : Program} {C : Ctx} {st : St} {ty : TypeId}
theorem Ex.unguard {ops : Array Oper} {Q : Exit → St → Prop} {rest : List Oper} {dst : Option Tmp} {op : Op} {pos : String} {af : Array Edge} {i t : Nat} {want b : Bool}
    (hi : (ops[i]?).bind (·.dst) = some t) (hb : lk st.t t = some (.bool b)) (hw : (b == want) = true)
    (h : Ex P C ops ({ dst := dst, op := op, type := ty, pos := pos, after := af, guard := none } :: rest) st Q) : Ex P C ops ({ dst := dst, op := op, type := ty, pos := pos, after := af, guard := some (i, want) } :: rest) st Q := fun g a w hr => by
  have hy : yielded ops a.tmps i = some b := by
    have := inv_bool (hr.tmps t _ hb)
    have e : a.tmps[t]? = some (.bool b) := by
      simp only [Array.getD_eq_getD_getElem?] at this
      cases h : a.tmps[t]? with
      | none => rw [h] at this; simp [undef] at this
      | some u => rw [h] at this; simpa using this
    simp [yielded, hi, e]
  have hwant : Region.wanted { dst := dst, op := op, type := ty, pos := pos, after := af, guard := some (i, want) } (yielded ops a.tmps) = true := by
    simp only [Region.wanted, hy]; exact hw
  have hwant2 : Region.wanted { dst := dst, op := op, type := ty, pos := pos, after := af, guard := none } (yielded ops a.tmps) = true := rfl
  have h1 := h g a w hr
  unfold wpListIn at h1 ⊢
  rw [if_pos hwant2] at h1
  rw [if_pos hwant]
  exact h1
end
end Go.Rse
