/-
  What a text of the chapter on the rule stands for.
-/
import Derived.Test.YtfiiobachmglpaaGreatDoorSLaw17a
import Derived.Test.YtfiiobachmglpaaGreatDoorSLogD
set_option linter.unusedSimpArgs false
set_option linter.unusedVariables false
namespace Go.Rse
open Go Go.Proofs
def txT : List Int := [88, 76, 66, 83, 77, 81, 70, 90]
def txV (b : Int) : Nat -> Int
 | 0 => 0
 | k + 1 => if txT.getD k 0 = b then (k : Int) + 1 else txV b k
def txG (b : Int) (rest col : Bool) : Sg := if rest = true then { (default : Sg) with Kind := 2, Value := txV b 8 } else { (default : Sg) with Kind := 1, Value := txV b 8, Color := col }
def txS (S : List Sg × Bool × Bool) (b : Int) : List Sg × Bool × Bool :=
 if b = 114 then (S.1, true, S.2.2)
 else if b = 42 then (S.1, S.2.1, true)
 else if b = 46 then (S.1 ++ [{ (default : Sg) with Kind := 3 }], false, false)
 else if b = 32 then (S.1, false, false)
 else (S.1 ++ [txG b S.2.1 S.2.2], false, false)
def txB (s : ByteArray) : List Int := s.data.toList.map fun x => (x.toNat : Int)
theorem tx_at {s : ByteArray} {i : Nat} (h : i < s.size) : (txB s)[i]? = some ((s[i]'h).toNat : Int) := by
 have h2 : i < s.data.toList.length := by simpa using h
 unfold txB; rw [List.getElem?_map, List.getElem?_eq_getElem h2]; rfl
def txK (l : List Int) (n : Nat) : List Sg × Bool × Bool := (l.take n).foldl txS ([], false, false)
theorem txK_s {l : List Int} {n : Nat} {b : Int} (h : l[n]? = some b) : txK l (n + 1) = txS (txK l n) b := by
 unfold txK
 rw [List.take_add_one, h]
 simp [List.foldl_append]
theorem txK_len (l : List Int) : ∀ n, (txK l n).1.length <= n
 | 0 => by simp [txK]
 | n + 1 => by
  have h0 := txK_len l n
  cases h : l[n]? with
  | none =>
   have : txK l (n + 1) = txK l n := by unfold txK; rw [List.take_add_one, h]; simp
   rw [this]; omega
  | some b =>
   rw [txK_s h]
   unfold txS
   split
   ·exact Nat.le_succ_of_le h0
   ·split
    ·exact Nat.le_succ_of_le h0
    ·split
     ·simp; omega
     ·split
      ·exact Nat.le_succ_of_le h0
      ·simp; omega
end Go.Rse
