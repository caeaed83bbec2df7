/-
  The program's data as plain structures, and how they lie in memory.
-/
import Derived.Test.YteecbmgddacioaaGreatRse12
import Derived.Test.YteecbmgddacioaaGreatTy
namespace Go.Rse
open Go Go.RowKit

structure Mn where
  Max : Int
  Mod : Int
  Tem : Int
  Pro : Int
  deriving DecidableEq
structure Tm where
  N : Int
  D : Int
  deriving DecidableEq
structure Sg where
  Kind : Int
  Value : Int
  Place : Int
  Acc : Int
  Color : Bool
  Stem : Int
  Oblique : Bool
  Last : Bool
  Mens : Mn
  Stroke : Bool
  N : Int
  D : Int
  CStep : Int
  CLine : Int
  deriving DecidableEq

instance : Inhabited Mn := ⟨⟨0, 0, 0, 0⟩⟩
instance : Inhabited Tm := ⟨⟨0, 0⟩⟩
instance : Inhabited Sg := ⟨⟨0, 0, 0, 0, false, 0, false, false, ⟨0, 0, 0, 0⟩, false, 0, 0, 0, 0⟩⟩
abbrev iv (n : Int) : AV := .int .i64 n
def intE : Int → List AV := fun n => [.int .i64 n]
def boolE : Bool → List AV := fun b => [.bool b]
def mnE : Mn → List AV := fun m => [.int .i64 m.Max, .int .i64 m.Mod, .int .i64 m.Tem, .int .i64 m.Pro]
def tmE : Tm → List AV := fun t => [.int .i64 t.N, .int .i64 t.D]
def sgE : Sg → List AV := fun s => [.int .i64 s.Kind, .int .i64 s.Value, .int .i64 s.Place, .int .i64 s.Acc, .bool s.Color, .int .i64 s.Stem, .bool s.Oblique, .bool s.Last, .int .i64 s.Mens.Max, .int .i64 s.Mens.Mod, .int .i64 s.Mens.Tem, .int .i64 s.Mens.Pro, .bool s.Stroke, .int .i64 s.N, .int .i64 s.D, .int .i64 s.CStep, .int .i64 s.CLine]
def intsE : List Int → List AV := fun l => [.sl intE l]
abbrev intsA (l : List Int) : AV := .sl intE l
abbrev boolsA (l : List Bool) : AV := .sl boolE l
abbrev mnA (m : Mn) : AV := .agg (mnE m)
abbrev tmA (t : Tm) : AV := .agg (tmE t)
abbrev sgA (s : Sg) : AV := .agg (sgE s)
abbrev sgsA (l : List Sg) : AV := .sl sgE l
abbrev tmsA (l : List Tm) : AV := .sl tmE l
abbrev listsA (l : List (List Int)) : AV := .sl intsE l
end Go.Rse
