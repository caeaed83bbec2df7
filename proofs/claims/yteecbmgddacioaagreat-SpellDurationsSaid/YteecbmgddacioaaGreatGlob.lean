/-
  The package-level variables that the walks read: what they hold, as integers.
-/
import Derived.WalkKit
namespace Go.Rse
open Go
def gInts : Nat → Option (List Int)
  | _ => none
end Go.Rse
