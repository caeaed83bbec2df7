/-
  NARROWER THAN 'FOR EVERY INPUT', by the rows' own cells (each row's printed sentence says how): ItemTotals: laid · ItemKnown: laid.
  DERIVED. THE GIVEN ROWS OF THIS SEAT. 2 by the template 'for every input the law returns true; each argument reads behind the call as it read before'; 0 by the template 'total and deterministic' (their statements: YtmbjfeaipblfcaaDoorTotals.lean).
  GIVEN WITH THE SEED: the statements are not yours to turn. If you find one false, say at which input.
  Laid BY PROGRAM, IN A SANDBOX (cutbox-rows.mjs): the forced cells as the released guide's own fill.sh prints them over the translation fbb50d4412aee4ec… (all of the seat's roots in one cut). By AI agents, Wed Nov 11 2026. No macro, syntax, notation, axiom, sorry.
-/
import Derived.Test.YtmbjfeaipblfcaaDoorChecked
import GoSem.Claim
import GoSem.ClaimJoined
import GoSem.ClaimMapViews
import Derived.JoinedTies
import Derived.KernelRfl
namespace Go.Proofs.YtmbjfeaipblfcaaDoor
/- THE CELL 'sum', in the pinned program and in every row, IS THE sha256 OF THE DUMP (.gsa) THAT YtmbjfeaipblfcaaDoorProg.lean LOADS. Nothing in Lean hashes anything: it is a label: what it is worth is what the hold of that sum in a sandbox is worth. -/
noncomputable def Tryd.pinned : Pinned := { name := "ytmbjfeaipblfcaadoor", sum := "fbb50d4412aee4ecd820b4583a78f5a1f57cdca1f470b58a2b177dd5c6acbd39", checked := Tryd.checked }
namespace Rows
def none {H : Type} : Left H := { results := [], args := [] }

/- WHAT THE LISTED PACKAGE-LEVEL VARIABLES READ AS WHEN THE CALL BEGINS. Each datum BY PROGRAM (the guide's laid-datum.mjs) off the statement by which the dump's own 'gosem.cut.vars' lays the variable. In a bare row this is a premise. The card (YtmbjfeaipblfcaaDoorCards.lean) ties it to the program's text. -/
def laid_tactus_item_half {H : Type} : DataW H := .agg [.lit (.int .i64 3), .lit (.int .i64 2)]

/-- 'tactuslaw13.ItemTotals': WHATEVER THE INPUT: true; the input reads as it did. -/
def itemTotalsSpec : ChangeSpec := { name := "itemTotals", fn := fun _ => fun
  | [d1, d2] => { results := [.lit (.bool true)], args := [d1, d2] }
  | _ => none }
def itemTotalsRow : OpenClaim := { program := "ytmbjfeaipblfcaadoor", sum := "fbb50d4412aee4ecd820b4583a78f5a1f57cdca1f470b58a2b177dd5c6acbd39", func := "tactus/tactuslaw13.ItemTotals", spec := "itemTotals", unfollowed := true, recurses := true, named := ["tactus/item.half"], apart := false, laid := [("tactus/item.half", laid_tactus_item_half)] }
def ItemTotalsSaid : Prop := itemTotalsRow.holds Tryd.pinned (OpenSpec.ofChange itemTotalsSpec)

/-- ITS FALSE NEIGHBOUR: 'it returns false'. Refute it at one input. -/
def itemTotalsWrong : ChangeSpec := { name := "itemTotals", fn := fun _ => fun
  | [d1, d2] => { results := [.lit (.bool false)], args := [d1, d2] }
  | _ => none }
def ItemTotalsWrongFalsely : Prop := itemTotalsRow.holds Tryd.pinned (OpenSpec.ofChange itemTotalsWrong)

/-- 'tactuslaw13.ItemKnown': WHATEVER THE INPUT: true; the input reads as it did. -/
def itemKnownSpec : ChangeSpec := { name := "itemKnown", fn := fun _ => fun
  | [] => { results := [.lit (.bool true)], args := [] }
  | _ => none }
def itemKnownRow : OpenClaim := { program := "ytmbjfeaipblfcaadoor", sum := "fbb50d4412aee4ecd820b4583a78f5a1f57cdca1f470b58a2b177dd5c6acbd39", func := "tactus/tactuslaw13.ItemKnown", spec := "itemKnown", unfollowed := true, recurses := true, named := ["tactus/item.half"], apart := false, laid := [("tactus/item.half", laid_tactus_item_half)] }
def ItemKnownSaid : Prop := itemKnownRow.holds Tryd.pinned (OpenSpec.ofChange itemKnownSpec)

/-- ITS FALSE NEIGHBOUR: 'it returns false'. Refute it at one input. -/
def itemKnownWrong : ChangeSpec := { name := "itemKnown", fn := fun _ => fun
  | [] => { results := [.lit (.bool false)], args := [] }
  | _ => none }
def ItemKnownWrongFalsely : Prop := itemKnownRow.holds Tryd.pinned (OpenSpec.ofChange itemKnownWrong)

/- THE SECOND FORM. 'bulk': how many values and letters a reading holds, each counted each time it is reached (what is shared counts as often as it is met; a slice's spare places count too). A statement '..UptoSaid' is the law's where the arguments, and the package variables that the reading takes, are together of bulk at most 1048576: NARROWER than '..Said'. Prove '..Said' where nothing that the law and all that it calls make is longer than what came in: it says more and counts as full. Else prove '..UptoSaid'. A law counts once. -/
mutual
def uptoBulk {H : Type} : DataW H → Nat
  | .lit (.string bytes) => bytes.length + 1
  | .lit _ => 1
  | .nil => 1
  | .ptr d => uptoBulk d + 1
  | .slice elems spare => uptoBulkAll elems + uptoBulkAll spare + 1
  | .agg parts => uptoBulkAll parts + 1
  | .iface _ d => uptoBulk d + 1
  | .map entries => uptoBulkEntries entries + 1
  | .held _ => 1
def uptoBulkAll {H : Type} : List (DataW H) → Nat
  | [] => 0
  | d :: r => uptoBulk d + uptoBulkAll r
def uptoBulkEntries {H : Type} : List (Lit × DataW H) → Nat
  | [] => 0
  | x :: r => uptoBulkEntry x + uptoBulkEntries r
def uptoBulkEntry {H : Type} : Lit × DataW H → Nat
  | (.string bytes, d) => bytes.length + uptoBulk d + 1
  | (_, d) => uptoBulk d + 1
 end
def uptoSmall : (H : Type) → List (DataW H) → Bool := fun _ ds => decide (uptoBulkAll ds ≤ 1048576)
def OpenSpec.upto (s : _root_.Go.ChangeSpec) : _root_.Go.OpenSpec := { _root_.Go.OpenSpec.ofChange s with cond := some uptoSmall }

/-- 'tactuslaw13.ItemTotals', WHERE WHAT IT READS IS OF BULK AT MOST 1048576: true; the input reads as it did. -/
def itemTotalsUptoRow : OpenClaim := { program := "ytmbjfeaipblfcaadoor", sum := "fbb50d4412aee4ecd820b4583a78f5a1f57cdca1f470b58a2b177dd5c6acbd39", func := "tactus/tactuslaw13.ItemTotals", spec := "itemTotals", unfollowed := true, recurses := true, named := ["tactus/item.half"], apart := false, laid := [("tactus/item.half", laid_tactus_item_half)], narrowed := true }
def ItemTotalsUptoSaid : Prop := itemTotalsUptoRow.holds Tryd.pinned (OpenSpec.upto itemTotalsSpec)

/-- 'tactuslaw13.ItemKnown', WHERE WHAT IT READS IS OF BULK AT MOST 1048576: true; the input reads as it did. -/
def itemKnownUptoRow : OpenClaim := { program := "ytmbjfeaipblfcaadoor", sum := "fbb50d4412aee4ecd820b4583a78f5a1f57cdca1f470b58a2b177dd5c6acbd39", func := "tactus/tactuslaw13.ItemKnown", spec := "itemKnown", unfollowed := true, recurses := true, named := ["tactus/item.half"], apart := false, laid := [("tactus/item.half", laid_tactus_item_half)], narrowed := true }
def ItemKnownUptoSaid : Prop := itemKnownUptoRow.holds Tryd.pinned (OpenSpec.upto itemKnownSpec)

end Rows
end Go.Proofs.YtmbjfeaipblfcaaDoor
