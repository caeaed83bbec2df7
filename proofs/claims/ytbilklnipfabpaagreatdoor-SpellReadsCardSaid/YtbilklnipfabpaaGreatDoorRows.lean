/-
  NARROWER THAN 'FOR EVERY INPUT', by the rows' own cells (each row's printed sentence says how): SpellReads: laid · ChoicesEach: laid · ChoicesEnds: laid · ChoicesKnown: laid.
  DERIVED. THE GIVEN ROWS OF THIS SEAT. 4 by the template 'for every input the law returns true; each argument reads behind the call as it read before'; 0 by the template 'total and deterministic' (their statements: YtbilklnipfabpaaGreatDoorTotals.lean).
  GIVEN WITH THE SEED: the statements are not yours to turn. If you find one false, say at which input.
  Laid BY PROGRAM, IN A SANDBOX (cutbox-rows.mjs): the forced cells as the released guide's own fill.sh prints them over the translation e9057f927f05c66f… (all of the seat's roots in one cut). By AI agents, Wed Nov 11 2026. No macro, syntax, notation, axiom, sorry.
-/
import Derived.Test.YtbilklnipfabpaaGreatDoorChecked
import GoSem.Claim
import GoSem.ClaimJoined
import GoSem.ClaimMapViews
import Derived.JoinedTies
import Derived.KernelRfl
namespace Go.Proofs.YtbilklnipfabpaaGreatDoor
/- THE CELL 'sum', in the pinned program and in every row, IS THE sha256 OF THE DUMP (.gsa) THAT YtbilklnipfabpaaGreatDoorProg.lean LOADS. Nothing in Lean hashes anything: it is a label: what it is worth is what the hold of that sum in a sandbox is worth. -/
noncomputable def Tryz.pinned : Pinned := { name := "ytbilklnipfabpaagreatdoor", sum := "e9057f927f05c66f30e5acf938b90bf0ee650d032ab5f5f8327792f3103eb897", checked := Tryz.checked }
namespace Rows
def none {H : Type} : Left H := { results := [], args := [] }

/- WHAT THE LISTED PACKAGE-LEVEL VARIABLES READ AS WHEN THE CALL BEGINS. Each datum BY PROGRAM (the guide's laid-datum.mjs) off the statement by which the dump's own 'gosem.cut.vars' lays the variable. In a bare row this is a premise. The card (YtbilklnipfabpaaGreatDoorCards.lean) ties it to the program's text. -/
def laid_tactus_item_half {H : Type} : DataW H := .agg [.lit (.int .i64 3), .lit (.int .i64 2)]

/-- 'tactuslaw22.SpellReads': WHATEVER THE INPUT: true; the input reads as it did. -/
def spellReadsSpec : ChangeSpec := { name := "spellReads", fn := fun _ => fun
  | [d1, d2, d3] => { results := [.lit (.bool true)], args := [d1, d2, d3] }
  | _ => none }
def spellReadsRow : OpenClaim := { program := "ytbilklnipfabpaagreatdoor", sum := "e9057f927f05c66f30e5acf938b90bf0ee650d032ab5f5f8327792f3103eb897", func := "tactus/tactuslaw22.SpellReads", spec := "spellReads", unfollowed := true, recurses := true, named := ["tactus/item.half"], plainKeys := false, apart := false, laid := [("tactus/item.half", laid_tactus_item_half)] }
def SpellReadsSaid : Prop := spellReadsRow.holds Tryz.pinned (OpenSpec.ofChange spellReadsSpec)

/-- ITS FALSE NEIGHBOUR: 'it returns false'. Refute it at one input. -/
def spellReadsWrong : ChangeSpec := { name := "spellReads", fn := fun _ => fun
  | [d1, d2, d3] => { results := [.lit (.bool false)], args := [d1, d2, d3] }
  | _ => none }
def SpellReadsWrongFalsely : Prop := spellReadsRow.holds Tryz.pinned (OpenSpec.ofChange spellReadsWrong)

/-- 'tactuslaw18.ChoicesEach': WHATEVER THE INPUT: true; the input reads as it did. -/
def choicesEachSpec : ChangeSpec := { name := "choicesEach", fn := fun _ => fun
  | [d1, d2, d3, d4] => { results := [.lit (.bool true)], args := [d1, d2, d3, d4] }
  | _ => none }
def choicesEachRow : OpenClaim := { program := "ytbilklnipfabpaagreatdoor", sum := "e9057f927f05c66f30e5acf938b90bf0ee650d032ab5f5f8327792f3103eb897", func := "tactus/tactuslaw18.ChoicesEach", spec := "choicesEach", unfollowed := true, recurses := true, named := ["tactus/item.half"], plainKeys := false, apart := false, laid := [("tactus/item.half", laid_tactus_item_half)] }
def ChoicesEachSaid : Prop := choicesEachRow.holds Tryz.pinned (OpenSpec.ofChange choicesEachSpec)

/-- ITS FALSE NEIGHBOUR: 'it returns false'. Refute it at one input. -/
def choicesEachWrong : ChangeSpec := { name := "choicesEach", fn := fun _ => fun
  | [d1, d2, d3, d4] => { results := [.lit (.bool false)], args := [d1, d2, d3, d4] }
  | _ => none }
def ChoicesEachWrongFalsely : Prop := choicesEachRow.holds Tryz.pinned (OpenSpec.ofChange choicesEachWrong)

/-- 'tactuslaw18.ChoicesEnds': WHATEVER THE INPUT: true; the input reads as it did. -/
def choicesEndsSpec : ChangeSpec := { name := "choicesEnds", fn := fun _ => fun
  | [d1, d2] => { results := [.lit (.bool true)], args := [d1, d2] }
  | _ => none }
def choicesEndsRow : OpenClaim := { program := "ytbilklnipfabpaagreatdoor", sum := "e9057f927f05c66f30e5acf938b90bf0ee650d032ab5f5f8327792f3103eb897", func := "tactus/tactuslaw18.ChoicesEnds", spec := "choicesEnds", unfollowed := true, recurses := true, named := ["tactus/item.half"], plainKeys := false, apart := false, laid := [("tactus/item.half", laid_tactus_item_half)] }
def ChoicesEndsSaid : Prop := choicesEndsRow.holds Tryz.pinned (OpenSpec.ofChange choicesEndsSpec)

/-- ITS FALSE NEIGHBOUR: 'it returns false'. Refute it at one input. -/
def choicesEndsWrong : ChangeSpec := { name := "choicesEnds", fn := fun _ => fun
  | [d1, d2] => { results := [.lit (.bool false)], args := [d1, d2] }
  | _ => none }
def ChoicesEndsWrongFalsely : Prop := choicesEndsRow.holds Tryz.pinned (OpenSpec.ofChange choicesEndsWrong)

/-- 'tactuslaw18.ChoicesKnown': WHATEVER THE INPUT: true; the input reads as it did. -/
def choicesKnownSpec : ChangeSpec := { name := "choicesKnown", fn := fun _ => fun
  | [] => { results := [.lit (.bool true)], args := [] }
  | _ => none }
def choicesKnownRow : OpenClaim := { program := "ytbilklnipfabpaagreatdoor", sum := "e9057f927f05c66f30e5acf938b90bf0ee650d032ab5f5f8327792f3103eb897", func := "tactus/tactuslaw18.ChoicesKnown", spec := "choicesKnown", unfollowed := true, recurses := true, named := ["tactus/item.half"], plainKeys := false, apart := false, laid := [("tactus/item.half", laid_tactus_item_half)] }
def ChoicesKnownSaid : Prop := choicesKnownRow.holds Tryz.pinned (OpenSpec.ofChange choicesKnownSpec)

/-- ITS FALSE NEIGHBOUR: 'it returns false'. Refute it at one input. -/
def choicesKnownWrong : ChangeSpec := { name := "choicesKnown", fn := fun _ => fun
  | [] => { results := [.lit (.bool false)], args := [] }
  | _ => none }
def ChoicesKnownWrongFalsely : Prop := choicesKnownRow.holds Tryz.pinned (OpenSpec.ofChange choicesKnownWrong)

/- THE SECOND FORM. 'bulk': how many values and letters a reading holds, each counted each time it is reached (what is shared counts as often as it is met; a slice's spare places count too). A statement '..UptoSaid' is the law's where the arguments, and the package variables that the reading takes, are together of bulk at most 1048576: NARROWER than '..Said'. Prove '..Said' where nothing that the law and all that it calls make is longer than what came in: it says more and counts as full. Else prove '..UptoSaid'. A law counts once. -/
mutual
def uptoBulk {H : Type} : DataW H → Nat
  | .lit (.string bytes) => bytes.length + 1
  | .lit _ => 1
  | .nil => 1
  | .ptr d => uptoBulk d + 1
  | .slice elems spare => uptoBulkAll elems + uptoBulkAll spare + 1
  | .agg parts => uptoBulkAll parts + 1
  | .iface _ d => uptoBulk d + 1
  | .map entries => uptoBulkEntries entries + 1
  | .held _ => 1
def uptoBulkAll {H : Type} : List (DataW H) → Nat
  | [] => 0
  | d :: r => uptoBulk d + uptoBulkAll r
def uptoBulkEntries {H : Type} : List (Lit × DataW H) → Nat
  | [] => 0
  | x :: r => uptoBulkEntry x + uptoBulkEntries r
def uptoBulkEntry {H : Type} : Lit × DataW H → Nat
  | (.string bytes, d) => bytes.length + uptoBulk d + 1
  | (_, d) => uptoBulk d + 1
 end
def uptoSmall : (H : Type) → List (DataW H) → Bool := fun _ ds => decide (uptoBulkAll ds ≤ 1048576)
def OpenSpec.upto (s : _root_.Go.ChangeSpec) : _root_.Go.OpenSpec := { _root_.Go.OpenSpec.ofChange s with cond := some uptoSmall }

/-- 'tactuslaw22.SpellReads', WHERE WHAT IT READS IS OF BULK AT MOST 1048576: true; the input reads as it did. -/
def spellReadsUptoRow : OpenClaim := { program := "ytbilklnipfabpaagreatdoor", sum := "e9057f927f05c66f30e5acf938b90bf0ee650d032ab5f5f8327792f3103eb897", func := "tactus/tactuslaw22.SpellReads", spec := "spellReads", unfollowed := true, recurses := true, named := ["tactus/item.half"], plainKeys := false, apart := false, laid := [("tactus/item.half", laid_tactus_item_half)], narrowed := true }
def SpellReadsUptoSaid : Prop := spellReadsUptoRow.holds Tryz.pinned (OpenSpec.upto spellReadsSpec)

/-- 'tactuslaw18.ChoicesEach', WHERE WHAT IT READS IS OF BULK AT MOST 1048576: true; the input reads as it did. -/
def choicesEachUptoRow : OpenClaim := { program := "ytbilklnipfabpaagreatdoor", sum := "e9057f927f05c66f30e5acf938b90bf0ee650d032ab5f5f8327792f3103eb897", func := "tactus/tactuslaw18.ChoicesEach", spec := "choicesEach", unfollowed := true, recurses := true, named := ["tactus/item.half"], plainKeys := false, apart := false, laid := [("tactus/item.half", laid_tactus_item_half)], narrowed := true }
def ChoicesEachUptoSaid : Prop := choicesEachUptoRow.holds Tryz.pinned (OpenSpec.upto choicesEachSpec)

/-- 'tactuslaw18.ChoicesEnds', WHERE WHAT IT READS IS OF BULK AT MOST 1048576: true; the input reads as it did. -/
def choicesEndsUptoRow : OpenClaim := { program := "ytbilklnipfabpaagreatdoor", sum := "e9057f927f05c66f30e5acf938b90bf0ee650d032ab5f5f8327792f3103eb897", func := "tactus/tactuslaw18.ChoicesEnds", spec := "choicesEnds", unfollowed := true, recurses := true, named := ["tactus/item.half"], plainKeys := false, apart := false, laid := [("tactus/item.half", laid_tactus_item_half)], narrowed := true }
def ChoicesEndsUptoSaid : Prop := choicesEndsUptoRow.holds Tryz.pinned (OpenSpec.upto choicesEndsSpec)

/-- 'tactuslaw18.ChoicesKnown', WHERE WHAT IT READS IS OF BULK AT MOST 1048576: true; the input reads as it did. -/
def choicesKnownUptoRow : OpenClaim := { program := "ytbilklnipfabpaagreatdoor", sum := "e9057f927f05c66f30e5acf938b90bf0ee650d032ab5f5f8327792f3103eb897", func := "tactus/tactuslaw18.ChoicesKnown", spec := "choicesKnown", unfollowed := true, recurses := true, named := ["tactus/item.half"], plainKeys := false, apart := false, laid := [("tactus/item.half", laid_tactus_item_half)], narrowed := true }
def ChoicesKnownUptoSaid : Prop := choicesKnownUptoRow.holds Tryz.pinned (OpenSpec.upto choicesKnownSpec)

end Rows
end Go.Proofs.YtbilklnipfabpaaGreatDoor
