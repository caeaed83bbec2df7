/-
  NARROWER THAN 'FOR EVERY INPUT', by the rows' own cells (each row's printed sentence says how): WritingsKnown: laid · WritingsHabits: laid · WritingsBest: laid · WritingsRead: laid.
  DERIVED. THE GIVEN ROWS OF THIS SEAT. 4 by the template 'for every input the law returns true; each argument reads behind the call as it read before'; 0 by the template 'total and deterministic' (their statements: YtkpbljifckjeoaaGreatDoorTotals.lean).
  GIVEN WITH THE SEED: the statements are not yours to turn. If you find one false, say at which input.
  Laid BY PROGRAM, IN A SANDBOX (cutbox-rows.mjs): the forced cells as the released guide's own fill.sh prints them over the translation 1a8bab265e56959c… (all of the seat's roots in one cut). By AI agents, Wed Nov 11 2026. No macro, syntax, notation, axiom, sorry.
-/
import Derived.Test.YtkpbljifckjeoaaGreatDoorChecked
import GoSem.Claim
import GoSem.ClaimJoined
import GoSem.ClaimMapViews
import Derived.JoinedTies
import Derived.KernelRfl
namespace Go.Proofs.YtkpbljifckjeoaaGreatDoor
/- THE CELL 'sum', in the pinned program and in every row, IS THE sha256 OF THE DUMP (.gsa) THAT YtkpbljifckjeoaaGreatDoorProg.lean LOADS. Nothing in Lean hashes anything: it is a label: what it is worth is what the hold of that sum in a sandbox is worth. -/
noncomputable def Tryz.pinned : Pinned := { name := "ytkpbljifckjeoaagreatdoor", sum := "1a8bab265e56959cf184c0c09339aaf342e7f7598ec8a1cfe578735c8fda01dd", checked := Tryz.checked }
namespace Rows
def none {H : Type} : Left H := { results := [], args := [] }

/- WHAT THE LISTED PACKAGE-LEVEL VARIABLES READ AS WHEN THE CALL BEGINS. Each datum BY PROGRAM (the guide's laid-datum.mjs) off the statement by which the dump's own 'gosem.cut.vars' lays the variable. In a bare row this is a premise. The card (YtkpbljifckjeoaaGreatDoorCards.lean) ties it to the program's text. -/
def laid_tactus_item_half {H : Type} : DataW H := .agg [.lit (.int .i64 3), .lit (.int .i64 2)]

/-- 'tactuslaw24.WritingsKnown': WHATEVER THE INPUT: true; the input reads as it did. -/
def writingsKnownSpec : ChangeSpec := { name := "writingsKnown", fn := fun _ => fun
  | [] => { results := [.lit (.bool true)], args := [] }
  | _ => none }
def writingsKnownRow : OpenClaim := { program := "ytkpbljifckjeoaagreatdoor", sum := "1a8bab265e56959cf184c0c09339aaf342e7f7598ec8a1cfe578735c8fda01dd", func := "tactus/tactuslaw24.WritingsKnown", spec := "writingsKnown", unfollowed := true, recurses := true, named := ["tactus/item.half"], plainKeys := false, apart := false, laid := [("tactus/item.half", laid_tactus_item_half)] }
def WritingsKnownSaid : Prop := writingsKnownRow.holds Tryz.pinned (OpenSpec.ofChange writingsKnownSpec)

/-- ITS FALSE NEIGHBOUR: 'it returns false'. Refute it at one input. -/
def writingsKnownWrong : ChangeSpec := { name := "writingsKnown", fn := fun _ => fun
  | [] => { results := [.lit (.bool false)], args := [] }
  | _ => none }
def WritingsKnownWrongFalsely : Prop := writingsKnownRow.holds Tryz.pinned (OpenSpec.ofChange writingsKnownWrong)

/-- 'tactuslaw24.WritingsHabits': WHATEVER THE INPUT: true; the input reads as it did. -/
def writingsHabitsSpec : ChangeSpec := { name := "writingsHabits", fn := fun _ => fun
  | [d1, d2] => { results := [.lit (.bool true)], args := [d1, d2] }
  | _ => none }
def writingsHabitsRow : OpenClaim := { program := "ytkpbljifckjeoaagreatdoor", sum := "1a8bab265e56959cf184c0c09339aaf342e7f7598ec8a1cfe578735c8fda01dd", func := "tactus/tactuslaw24.WritingsHabits", spec := "writingsHabits", unfollowed := true, recurses := true, named := ["tactus/item.half"], plainKeys := false, apart := false, laid := [("tactus/item.half", laid_tactus_item_half)] }
def WritingsHabitsSaid : Prop := writingsHabitsRow.holds Tryz.pinned (OpenSpec.ofChange writingsHabitsSpec)

/-- ITS FALSE NEIGHBOUR: 'it returns false'. Refute it at one input. -/
def writingsHabitsWrong : ChangeSpec := { name := "writingsHabits", fn := fun _ => fun
  | [d1, d2] => { results := [.lit (.bool false)], args := [d1, d2] }
  | _ => none }
def WritingsHabitsWrongFalsely : Prop := writingsHabitsRow.holds Tryz.pinned (OpenSpec.ofChange writingsHabitsWrong)

/-- 'tactuslaw24.WritingsBest': WHATEVER THE INPUT: true; the input reads as it did. -/
def writingsBestSpec : ChangeSpec := { name := "writingsBest", fn := fun _ => fun
  | [d1, d2, d3, d4] => { results := [.lit (.bool true)], args := [d1, d2, d3, d4] }
  | _ => none }
def writingsBestRow : OpenClaim := { program := "ytkpbljifckjeoaagreatdoor", sum := "1a8bab265e56959cf184c0c09339aaf342e7f7598ec8a1cfe578735c8fda01dd", func := "tactus/tactuslaw24.WritingsBest", spec := "writingsBest", unfollowed := true, recurses := true, named := ["tactus/item.half"], plainKeys := false, apart := false, laid := [("tactus/item.half", laid_tactus_item_half)] }
def WritingsBestSaid : Prop := writingsBestRow.holds Tryz.pinned (OpenSpec.ofChange writingsBestSpec)

/-- ITS FALSE NEIGHBOUR: 'it returns false'. Refute it at one input. -/
def writingsBestWrong : ChangeSpec := { name := "writingsBest", fn := fun _ => fun
  | [d1, d2, d3, d4] => { results := [.lit (.bool false)], args := [d1, d2, d3, d4] }
  | _ => none }
def WritingsBestWrongFalsely : Prop := writingsBestRow.holds Tryz.pinned (OpenSpec.ofChange writingsBestWrong)

/-- 'tactuslaw24.WritingsRead': WHATEVER THE INPUT: true; the input reads as it did. -/
def writingsReadSpec : ChangeSpec := { name := "writingsRead", fn := fun _ => fun
  | [d1, d2, d3] => { results := [.lit (.bool true)], args := [d1, d2, d3] }
  | _ => none }
def writingsReadRow : OpenClaim := { program := "ytkpbljifckjeoaagreatdoor", sum := "1a8bab265e56959cf184c0c09339aaf342e7f7598ec8a1cfe578735c8fda01dd", func := "tactus/tactuslaw24.WritingsRead", spec := "writingsRead", unfollowed := true, recurses := true, named := ["tactus/item.half"], plainKeys := false, apart := false, laid := [("tactus/item.half", laid_tactus_item_half)] }
def WritingsReadSaid : Prop := writingsReadRow.holds Tryz.pinned (OpenSpec.ofChange writingsReadSpec)

/-- ITS FALSE NEIGHBOUR: 'it returns false'. Refute it at one input. -/
def writingsReadWrong : ChangeSpec := { name := "writingsRead", fn := fun _ => fun
  | [d1, d2, d3] => { results := [.lit (.bool false)], args := [d1, d2, d3] }
  | _ => none }
def WritingsReadWrongFalsely : Prop := writingsReadRow.holds Tryz.pinned (OpenSpec.ofChange writingsReadWrong)

/- THE SECOND FORM. 'bulk': how many values and letters a reading holds, each counted each time it is reached (what is shared counts as often as it is met; a slice's spare places count too). A statement '..UptoSaid' is the law's where the arguments, and the package variables that the reading takes, are together of bulk at most 1048576: NARROWER than '..Said'. Prove '..Said' where nothing that the law and all that it calls make is longer than what came in: it says more and counts as full. Else prove '..UptoSaid'. A law counts once. -/
mutual
def uptoBulk {H : Type} : DataW H → Nat
  | .lit (.string bytes) => bytes.length + 1
  | .lit _ => 1
  | .nil => 1
  | .ptr d => uptoBulk d + 1
  | .slice elems spare => uptoBulkAll elems + uptoBulkAll spare + 1
  | .agg parts => uptoBulkAll parts + 1
  | .iface _ d => uptoBulk d + 1
  | .map entries => uptoBulkEntries entries + 1
  | .held _ => 1
def uptoBulkAll {H : Type} : List (DataW H) → Nat
  | [] => 0
  | d :: r => uptoBulk d + uptoBulkAll r
def uptoBulkEntries {H : Type} : List (Lit × DataW H) → Nat
  | [] => 0
  | x :: r => uptoBulkEntry x + uptoBulkEntries r
def uptoBulkEntry {H : Type} : Lit × DataW H → Nat
  | (.string bytes, d) => bytes.length + uptoBulk d + 1
  | (_, d) => uptoBulk d + 1
 end
def uptoSmall : (H : Type) → List (DataW H) → Bool := fun _ ds => decide (uptoBulkAll ds ≤ 1048576)
def OpenSpec.upto (s : _root_.Go.ChangeSpec) : _root_.Go.OpenSpec := { _root_.Go.OpenSpec.ofChange s with cond := some uptoSmall }

/-- 'tactuslaw24.WritingsKnown', WHERE WHAT IT READS IS OF BULK AT MOST 1048576: true; the input reads as it did. -/
def writingsKnownUptoRow : OpenClaim := { program := "ytkpbljifckjeoaagreatdoor", sum := "1a8bab265e56959cf184c0c09339aaf342e7f7598ec8a1cfe578735c8fda01dd", func := "tactus/tactuslaw24.WritingsKnown", spec := "writingsKnown", unfollowed := true, recurses := true, named := ["tactus/item.half"], plainKeys := false, apart := false, laid := [("tactus/item.half", laid_tactus_item_half)], narrowed := true }
def WritingsKnownUptoSaid : Prop := writingsKnownUptoRow.holds Tryz.pinned (OpenSpec.upto writingsKnownSpec)

/-- 'tactuslaw24.WritingsHabits', WHERE WHAT IT READS IS OF BULK AT MOST 1048576: true; the input reads as it did. -/
def writingsHabitsUptoRow : OpenClaim := { program := "ytkpbljifckjeoaagreatdoor", sum := "1a8bab265e56959cf184c0c09339aaf342e7f7598ec8a1cfe578735c8fda01dd", func := "tactus/tactuslaw24.WritingsHabits", spec := "writingsHabits", unfollowed := true, recurses := true, named := ["tactus/item.half"], plainKeys := false, apart := false, laid := [("tactus/item.half", laid_tactus_item_half)], narrowed := true }
def WritingsHabitsUptoSaid : Prop := writingsHabitsUptoRow.holds Tryz.pinned (OpenSpec.upto writingsHabitsSpec)

/-- 'tactuslaw24.WritingsBest', WHERE WHAT IT READS IS OF BULK AT MOST 1048576: true; the input reads as it did. -/
def writingsBestUptoRow : OpenClaim := { program := "ytkpbljifckjeoaagreatdoor", sum := "1a8bab265e56959cf184c0c09339aaf342e7f7598ec8a1cfe578735c8fda01dd", func := "tactus/tactuslaw24.WritingsBest", spec := "writingsBest", unfollowed := true, recurses := true, named := ["tactus/item.half"], plainKeys := false, apart := false, laid := [("tactus/item.half", laid_tactus_item_half)], narrowed := true }
def WritingsBestUptoSaid : Prop := writingsBestUptoRow.holds Tryz.pinned (OpenSpec.upto writingsBestSpec)

/-- 'tactuslaw24.WritingsRead', WHERE WHAT IT READS IS OF BULK AT MOST 1048576: true; the input reads as it did. -/
def writingsReadUptoRow : OpenClaim := { program := "ytkpbljifckjeoaagreatdoor", sum := "1a8bab265e56959cf184c0c09339aaf342e7f7598ec8a1cfe578735c8fda01dd", func := "tactus/tactuslaw24.WritingsRead", spec := "writingsRead", unfollowed := true, recurses := true, named := ["tactus/item.half"], plainKeys := false, apart := false, laid := [("tactus/item.half", laid_tactus_item_half)], narrowed := true }
def WritingsReadUptoSaid : Prop := writingsReadUptoRow.holds Tryz.pinned (OpenSpec.upto writingsReadSpec)

end Rows
end Go.Proofs.YtkpbljifckjeoaaGreatDoor
