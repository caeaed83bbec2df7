/-
  Plain: what the map of the pairs holds, and the reference's last write.
-/
import Derived.Test.YteecbmgddacioaaColor8
import Derived.Test.YteecbmgddacioaaRse33
namespace Go.Rse
open Go Go.Proofs
set_option linter.unusedVariables false
set_option linter.unusedSimpArgs false
section
variable {α : Type}
theorem mix_shift {q : Int} : ∀ (l : List (Int × α)) (i : Nat), mix q l i = (mix q l 0).map (fun p => (p.1 + i, p.2))
  | [], i => rfl
  | p :: l, i => by
    unfold mix
    by_cases h : p.1 = q
    · simp [h]
    · rw [if_neg h, if_neg h, mix_shift l (i + 1), mix_shift l 1, Option.map_map]
      congr 1; funext x; simp; omega
theorem mget_nil (q : Int) : mget q ([] : List (Int × α)) = none := rfl
theorem mget_cons (q : Int) (p : Int × α) (l : List (Int × α)) : mget q (p :: l) = if p.1 = q then some p.2 else mget q l := by
  have e : mix q (p :: l) 0 = if p.1 = q then some (0, p.2) else mix q l 1 := rfl
  unfold mget
  rw [e]
  by_cases h : p.1 = q
  · simp [h]
  · rw [if_neg h, if_neg h, mix_shift l 1, Option.map_map]; rfl
theorem mput_nil (q : Int) (x : α) : mput q x [] = [(q, x)] := rfl
theorem mput_cons (q : Int) (x : α) (p : Int × α) (l : List (Int × α)) : mput q x (p :: l) = if p.1 = q then (q, x) :: l else p :: mput q x l := by
  unfold mput
  by_cases h : p.1 = q
  · simp [mix, h]
  · have e : mix q (p :: l) 0 = (mix q l 0).map (fun z => (z.1 + 1, z.2)) := by
      rw [show mix q (p :: l) 0 = mix q l 1 by simp [mix, h], mix_shift l 1]
    rw [e, if_neg h]
    cases mix q l 0 with
    | none => rfl
    | some z => rfl
theorem mget_mput (q q' : Int) (x : α) : ∀ l : List (Int × α), mget q (mput q' x l) = if q' = q then some x else mget q l
  | [] => by rw [mput_nil, mget_cons]
  | p :: l => by
    rw [mput_cons]
    by_cases h : p.1 = q'
    · rw [if_pos h, mget_cons, mget_cons]
      by_cases h2 : q' = q
      · simp [h2]
      · rw [if_neg h2, if_neg h2, if_neg (by rw [h]; exact h2)]
    · rw [if_neg h, mget_cons, mget_cons, mget_mput q q' x l]
      by_cases h2 : p.1 = q
      · rw [if_pos h2, if_pos h2, if_neg (by omega)]
      · rw [if_neg h2, if_neg h2]
end
end Go.Rse
