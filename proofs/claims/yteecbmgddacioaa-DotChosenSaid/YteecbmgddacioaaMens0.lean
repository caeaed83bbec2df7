/-
  Mensurations: what the functions compute (plain).
-/
import Derived.Test.YteecbmgddacioaaEnc
namespace Go.Rse
open Go

def two3 (n : Int) : Prop := n = 2 ∨ n = 3
instance (n : Int) : Decidable (two3 n) := inferInstanceAs (Decidable (_ ∨ _))
def Mn.p (m : Mn) (v : Int) : Int := if v = 1 then m.Max else if v = 2 then m.Mod else if v = 3 then m.Tem else if v = 4 then m.Pro else 2
def Mn.Ok (m : Mn) : Prop := two3 m.Max ∧ two3 m.Mod ∧ two3 m.Tem ∧ two3 m.Pro
instance (m : Mn) : Decidable m.Ok := inferInstanceAs (Decidable (_ ∧ _ ∧ _ ∧ _))
def ckM (m : Mn) : Int := if m.Ok then 0 else 12
def ckMV (m : Mn) (v : Int) : Int := if m.Ok then (if 1 ≤ v ∧ v ≤ 8 then 0 else 2) else 12
theorem mnE_get (m : Mn) (v : Int) (h1 : 1 ≤ v) (h2 : v ≤ 4) : (mnE m)[(v - 1).toNat]? = some (iv (m.p v)) := by
  have : v = 1 ∨ v = 2 ∨ v = 3 ∨ v = 4 := by omega
  rcases this with rfl | rfl | rfl | rfl <;> rfl
theorem Mn.ok_iff (m : Mn) : m.Ok ↔ ∀ v : Int, 1 ≤ v → v ≤ 4 → two3 (m.p v) := by
  constructor
  · rintro ⟨a, b, c, d⟩ v h1 h2
    have : v = 1 ∨ v = 2 ∨ v = 3 ∨ v = 4 := by omega
    rcases this with rfl | rfl | rfl | rfl <;> assumption
  · intro h
    exact ⟨h 1 (by omega) (by omega), h 2 (by omega) (by omega), h 3 (by omega) (by omega), h 4 (by omega) (by omega)⟩
end Go.Rse
