/-
  No cell of these rows narrows 'for every input' (looked for: loops, veiled, ifaces, maps, wideKeys, modest, calm, conditions, laid).
  DERIVED. THE GIVEN ROWS OF THIS SEAT. 19 by the template 'for every input the law returns true; each argument reads behind the call as it read before'; 0 by the template 'total and deterministic' (their statements: YteecbmgddacioaaTotals.lean).
  GIVEN WITH THE SEED: the statements are not yours to turn. If you find one false, say at which input.
  Laid BY PROGRAM, IN A SANDBOX (cutbox-rows.mjs): the forced cells as the released guide's own fill.sh prints them over the translation 0eb0b699905f418f… (all of the seat's roots in one cut). By AI agents, Wed Nov 11 2026. No macro, syntax, notation, axiom, sorry.
-/
import Derived.Test.YteecbmgddacioaaChecked
import GoSem.Claim
import GoSem.ClaimJoined
import GoSem.ClaimMapViews
import Derived.JoinedTies
import Derived.KernelRfl
namespace Go.Proofs.Yteecbmgddacioaa
/- THE CELL 'sum', in the pinned program and in every row, IS THE sha256 OF THE DUMP (.gsa) THAT YteecbmgddacioaaProg.lean LOADS. Nothing in Lean hashes anything: it is a label: what it is worth is what the hold of that sum in a sandbox is worth. -/
noncomputable def Try.pinned : Pinned := { name := "yteecbmgddacioaa", sum := "0eb0b699905f418f8523d67d4dbbf4ddd984d1d93966547ae4ce98a04ee31e90", checked := Try.checked }
namespace Rows
def none {H : Type} : Left H := { results := [], args := [] }

/-- 'tactuslaw22.SpellRests': WHATEVER THE INPUT: true; the input reads as it did. -/
def spellRestsSpec : ChangeSpec := { name := "spellRests", fn := fun _ => fun
  | [d1, d2, d3] => { results := [.lit (.bool true)], args := [d1, d2, d3] }
  | _ => none }
def spellRestsRow : OpenClaim := { program := "yteecbmgddacioaa", sum := "0eb0b699905f418f8523d67d4dbbf4ddd984d1d93966547ae4ce98a04ee31e90", func := "tactus/tactuslaw22.SpellRests", spec := "spellRests", unfollowed := true, recurses := true, apart := false }
def SpellRestsSaid : Prop := spellRestsRow.holds Try.pinned (OpenSpec.ofChange spellRestsSpec)

/-- ITS FALSE NEIGHBOUR: 'it returns false'. Refute it at one input. -/
def spellRestsWrong : ChangeSpec := { name := "spellRests", fn := fun _ => fun
  | [d1, d2, d3] => { results := [.lit (.bool false)], args := [d1, d2, d3] }
  | _ => none }
def SpellRestsWrongFalsely : Prop := spellRestsRow.holds Try.pinned (OpenSpec.ofChange spellRestsWrong)

/-- 'tactuslaw09.DotMeanings': WHATEVER THE INPUT: true; the input reads as it did. -/
def dotMeaningsSpec : ChangeSpec := { name := "dotMeanings", fn := fun _ => fun
  | [d1, d2] => { results := [.lit (.bool true)], args := [d1, d2] }
  | _ => none }
def dotMeaningsRow : OpenClaim := { program := "yteecbmgddacioaa", sum := "0eb0b699905f418f8523d67d4dbbf4ddd984d1d93966547ae4ce98a04ee31e90", func := "tactus/tactuslaw09.DotMeanings", spec := "dotMeanings", unfollowed := true, recurses := true, apart := false }
def DotMeaningsSaid : Prop := dotMeaningsRow.holds Try.pinned (OpenSpec.ofChange dotMeaningsSpec)

/-- ITS FALSE NEIGHBOUR: 'it returns false'. Refute it at one input. -/
def dotMeaningsWrong : ChangeSpec := { name := "dotMeanings", fn := fun _ => fun
  | [d1, d2] => { results := [.lit (.bool false)], args := [d1, d2] }
  | _ => none }
def DotMeaningsWrongFalsely : Prop := dotMeaningsRow.holds Try.pinned (OpenSpec.ofChange dotMeaningsWrong)

/-- 'tactuslaw09.DotChosen': WHATEVER THE INPUT: true; the input reads as it did. -/
def dotChosenSpec : ChangeSpec := { name := "dotChosen", fn := fun _ => fun
  | [d1, d2, d3, d4] => { results := [.lit (.bool true)], args := [d1, d2, d3, d4] }
  | _ => none }
def dotChosenRow : OpenClaim := { program := "yteecbmgddacioaa", sum := "0eb0b699905f418f8523d67d4dbbf4ddd984d1d93966547ae4ce98a04ee31e90", func := "tactus/tactuslaw09.DotChosen", spec := "dotChosen", unfollowed := true, recurses := true, apart := false }
def DotChosenSaid : Prop := dotChosenRow.holds Try.pinned (OpenSpec.ofChange dotChosenSpec)

/-- ITS FALSE NEIGHBOUR: 'it returns false'. Refute it at one input. -/
def dotChosenWrong : ChangeSpec := { name := "dotChosen", fn := fun _ => fun
  | [d1, d2, d3, d4] => { results := [.lit (.bool false)], args := [d1, d2, d3, d4] }
  | _ => none }
def DotChosenWrongFalsely : Prop := dotChosenRow.holds Try.pinned (OpenSpec.ofChange dotChosenWrong)

/-- 'tactuslaw09.DotKnown': WHATEVER THE INPUT: true; the input reads as it did. -/
def dotKnownSpec : ChangeSpec := { name := "dotKnown", fn := fun _ => fun
  | [] => { results := [.lit (.bool true)], args := [] }
  | _ => none }
def dotKnownRow : OpenClaim := { program := "yteecbmgddacioaa", sum := "0eb0b699905f418f8523d67d4dbbf4ddd984d1d93966547ae4ce98a04ee31e90", func := "tactus/tactuslaw09.DotKnown", spec := "dotKnown", unfollowed := true, recurses := true, apart := false }
def DotKnownSaid : Prop := dotKnownRow.holds Try.pinned (OpenSpec.ofChange dotKnownSpec)

/-- ITS FALSE NEIGHBOUR: 'it returns false'. Refute it at one input. -/
def dotKnownWrong : ChangeSpec := { name := "dotKnown", fn := fun _ => fun
  | [] => { results := [.lit (.bool false)], args := [] }
  | _ => none }
def DotKnownWrongFalsely : Prop := dotKnownRow.holds Try.pinned (OpenSpec.ofChange dotKnownWrong)

/-- 'tactuslaw09.DotTwo': WHATEVER THE INPUT: true; the input reads as it did. -/
def dotTwoSpec : ChangeSpec := { name := "dotTwo", fn := fun _ => fun
  | [d1, d2] => { results := [.lit (.bool true)], args := [d1, d2] }
  | _ => none }
def dotTwoRow : OpenClaim := { program := "yteecbmgddacioaa", sum := "0eb0b699905f418f8523d67d4dbbf4ddd984d1d93966547ae4ce98a04ee31e90", func := "tactus/tactuslaw09.DotTwo", spec := "dotTwo", unfollowed := true, recurses := true, apart := false }
def DotTwoSaid : Prop := dotTwoRow.holds Try.pinned (OpenSpec.ofChange dotTwoSpec)

/-- ITS FALSE NEIGHBOUR: 'it returns false'. Refute it at one input. -/
def dotTwoWrong : ChangeSpec := { name := "dotTwo", fn := fun _ => fun
  | [d1, d2] => { results := [.lit (.bool false)], args := [d1, d2] }
  | _ => none }
def DotTwoWrongFalsely : Prop := dotTwoRow.holds Try.pinned (OpenSpec.ofChange dotTwoWrong)

/-- 'tactuslaw09.DotNumbered': WHATEVER THE INPUT: true; the input reads as it did. -/
def dotNumberedSpec : ChangeSpec := { name := "dotNumbered", fn := fun _ => fun
  | [d1, d2] => { results := [.lit (.bool true)], args := [d1, d2] }
  | _ => none }
def dotNumberedRow : OpenClaim := { program := "yteecbmgddacioaa", sum := "0eb0b699905f418f8523d67d4dbbf4ddd984d1d93966547ae4ce98a04ee31e90", func := "tactus/tactuslaw09.DotNumbered", spec := "dotNumbered", unfollowed := true, recurses := true, apart := false }
def DotNumberedSaid : Prop := dotNumberedRow.holds Try.pinned (OpenSpec.ofChange dotNumberedSpec)

/-- ITS FALSE NEIGHBOUR: 'it returns false'. Refute it at one input. -/
def dotNumberedWrong : ChangeSpec := { name := "dotNumbered", fn := fun _ => fun
  | [d1, d2] => { results := [.lit (.bool false)], args := [d1, d2] }
  | _ => none }
def DotNumberedWrongFalsely : Prop := dotNumberedRow.holds Try.pinned (OpenSpec.ofChange dotNumberedWrong)

/-- 'tactuslaw09.DotBinary': WHATEVER THE INPUT: true; the input reads as it did. -/
def dotBinarySpec : ChangeSpec := { name := "dotBinary", fn := fun _ => fun
  | [d] => { results := [.lit (.bool true)], args := [d] }
  | _ => none }
def dotBinaryRow : OpenClaim := { program := "yteecbmgddacioaa", sum := "0eb0b699905f418f8523d67d4dbbf4ddd984d1d93966547ae4ce98a04ee31e90", func := "tactus/tactuslaw09.DotBinary", spec := "dotBinary", unfollowed := true, recurses := true, apart := false }
def DotBinarySaid : Prop := dotBinaryRow.holds Try.pinned (OpenSpec.ofChange dotBinarySpec)

/-- ITS FALSE NEIGHBOUR: 'it returns false'. Refute it at one input. -/
def dotBinaryWrong : ChangeSpec := { name := "dotBinary", fn := fun _ => fun
  | [d] => { results := [.lit (.bool false)], args := [d] }
  | _ => none }
def DotBinaryWrongFalsely : Prop := dotBinaryRow.holds Try.pinned (OpenSpec.ofChange dotBinaryWrong)

/-- 'tactuslaw09.DotLocal': WHATEVER THE INPUT: true; the input reads as it did. -/
def dotLocalSpec : ChangeSpec := { name := "dotLocal", fn := fun _ => fun
  | [d1, d2] => { results := [.lit (.bool true)], args := [d1, d2] }
  | _ => none }
def dotLocalRow : OpenClaim := { program := "yteecbmgddacioaa", sum := "0eb0b699905f418f8523d67d4dbbf4ddd984d1d93966547ae4ce98a04ee31e90", func := "tactus/tactuslaw09.DotLocal", spec := "dotLocal", unfollowed := true, recurses := true, apart := false }
def DotLocalSaid : Prop := dotLocalRow.holds Try.pinned (OpenSpec.ofChange dotLocalSpec)

/-- ITS FALSE NEIGHBOUR: 'it returns false'. Refute it at one input. -/
def dotLocalWrong : ChangeSpec := { name := "dotLocal", fn := fun _ => fun
  | [d1, d2] => { results := [.lit (.bool false)], args := [d1, d2] }
  | _ => none }
def DotLocalWrongFalsely : Prop := dotLocalRow.holds Try.pinned (OpenSpec.ofChange dotLocalWrong)

/-- 'tactuslaw11.ColorDurs': WHATEVER THE INPUT: true; the input reads as it did. -/
def colorDursSpec : ChangeSpec := { name := "colorDurs", fn := fun _ => fun
  | [d1, d2] => { results := [.lit (.bool true)], args := [d1, d2] }
  | _ => none }
def colorDursRow : OpenClaim := { program := "yteecbmgddacioaa", sum := "0eb0b699905f418f8523d67d4dbbf4ddd984d1d93966547ae4ce98a04ee31e90", func := "tactus/tactuslaw11.ColorDurs", spec := "colorDurs", unfollowed := true, recurses := true, apart := false }
def ColorDursSaid : Prop := colorDursRow.holds Try.pinned (OpenSpec.ofChange colorDursSpec)

/-- ITS FALSE NEIGHBOUR: 'it returns false'. Refute it at one input. -/
def colorDursWrong : ChangeSpec := { name := "colorDurs", fn := fun _ => fun
  | [d1, d2] => { results := [.lit (.bool false)], args := [d1, d2] }
  | _ => none }
def ColorDursWrongFalsely : Prop := colorDursRow.holds Try.pinned (OpenSpec.ofChange colorDursWrong)

/-- 'tactuslaw11.ColorNeutral': WHATEVER THE INPUT: true; the input reads as it did. -/
def colorNeutralSpec : ChangeSpec := { name := "colorNeutral", fn := fun _ => fun
  | [d1, d2, d3] => { results := [.lit (.bool true)], args := [d1, d2, d3] }
  | _ => none }
def colorNeutralRow : OpenClaim := { program := "yteecbmgddacioaa", sum := "0eb0b699905f418f8523d67d4dbbf4ddd984d1d93966547ae4ce98a04ee31e90", func := "tactus/tactuslaw11.ColorNeutral", spec := "colorNeutral", unfollowed := true, recurses := true, apart := false }
def ColorNeutralSaid : Prop := colorNeutralRow.holds Try.pinned (OpenSpec.ofChange colorNeutralSpec)

/-- ITS FALSE NEIGHBOUR: 'it returns false'. Refute it at one input. -/
def colorNeutralWrong : ChangeSpec := { name := "colorNeutral", fn := fun _ => fun
  | [d1, d2, d3] => { results := [.lit (.bool false)], args := [d1, d2, d3] }
  | _ => none }
def ColorNeutralWrongFalsely : Prop := colorNeutralRow.holds Try.pinned (OpenSpec.ofChange colorNeutralWrong)

/-- 'tactuslaw11.ColorApart': WHATEVER THE INPUT: true; the input reads as it did. -/
def colorApartSpec : ChangeSpec := { name := "colorApart", fn := fun _ => fun
  | [d1, d2] => { results := [.lit (.bool true)], args := [d1, d2] }
  | _ => none }
def colorApartRow : OpenClaim := { program := "yteecbmgddacioaa", sum := "0eb0b699905f418f8523d67d4dbbf4ddd984d1d93966547ae4ce98a04ee31e90", func := "tactus/tactuslaw11.ColorApart", spec := "colorApart", unfollowed := true, recurses := true, apart := false }
def ColorApartSaid : Prop := colorApartRow.holds Try.pinned (OpenSpec.ofChange colorApartSpec)

/-- ITS FALSE NEIGHBOUR: 'it returns false'. Refute it at one input. -/
def colorApartWrong : ChangeSpec := { name := "colorApart", fn := fun _ => fun
  | [d1, d2] => { results := [.lit (.bool false)], args := [d1, d2] }
  | _ => none }
def ColorApartWrongFalsely : Prop := colorApartRow.holds Try.pinned (OpenSpec.ofChange colorApartWrong)

/-- 'tactuslaw11.ColorThirds': WHATEVER THE INPUT: true; the input reads as it did. -/
def colorThirdsSpec : ChangeSpec := { name := "colorThirds", fn := fun _ => fun
  | [d1, d2] => { results := [.lit (.bool true)], args := [d1, d2] }
  | _ => none }
def colorThirdsRow : OpenClaim := { program := "yteecbmgddacioaa", sum := "0eb0b699905f418f8523d67d4dbbf4ddd984d1d93966547ae4ce98a04ee31e90", func := "tactus/tactuslaw11.ColorThirds", spec := "colorThirds", unfollowed := true, recurses := true, apart := false }
def ColorThirdsSaid : Prop := colorThirdsRow.holds Try.pinned (OpenSpec.ofChange colorThirdsSpec)

/-- ITS FALSE NEIGHBOUR: 'it returns false'. Refute it at one input. -/
def colorThirdsWrong : ChangeSpec := { name := "colorThirds", fn := fun _ => fun
  | [d1, d2] => { results := [.lit (.bool false)], args := [d1, d2] }
  | _ => none }
def ColorThirdsWrongFalsely : Prop := colorThirdsRow.holds Try.pinned (OpenSpec.ofChange colorThirdsWrong)

/-- 'tactuslaw11.ColorKnown': WHATEVER THE INPUT: true; the input reads as it did. -/
def colorKnownSpec : ChangeSpec := { name := "colorKnown", fn := fun _ => fun
  | [] => { results := [.lit (.bool true)], args := [] }
  | _ => none }
def colorKnownRow : OpenClaim := { program := "yteecbmgddacioaa", sum := "0eb0b699905f418f8523d67d4dbbf4ddd984d1d93966547ae4ce98a04ee31e90", func := "tactus/tactuslaw11.ColorKnown", spec := "colorKnown", unfollowed := true, recurses := true, apart := false }
def ColorKnownSaid : Prop := colorKnownRow.holds Try.pinned (OpenSpec.ofChange colorKnownSpec)

/-- ITS FALSE NEIGHBOUR: 'it returns false'. Refute it at one input. -/
def colorKnownWrong : ChangeSpec := { name := "colorKnown", fn := fun _ => fun
  | [] => { results := [.lit (.bool false)], args := [] }
  | _ => none }
def ColorKnownWrongFalsely : Prop := colorKnownRow.holds Try.pinned (OpenSpec.ofChange colorKnownWrong)

/-- 'tactuslaw11.ColorPairs': WHATEVER THE INPUT: true; the input reads as it did. -/
def colorPairsSpec : ChangeSpec := { name := "colorPairs", fn := fun _ => fun
  | [d1, d2, d3, d4] => { results := [.lit (.bool true)], args := [d1, d2, d3, d4] }
  | _ => none }
def colorPairsRow : OpenClaim := { program := "yteecbmgddacioaa", sum := "0eb0b699905f418f8523d67d4dbbf4ddd984d1d93966547ae4ce98a04ee31e90", func := "tactus/tactuslaw11.ColorPairs", spec := "colorPairs", unfollowed := true, recurses := true, apart := false }
def ColorPairsSaid : Prop := colorPairsRow.holds Try.pinned (OpenSpec.ofChange colorPairsSpec)

/-- ITS FALSE NEIGHBOUR: 'it returns false'. Refute it at one input. -/
def colorPairsWrong : ChangeSpec := { name := "colorPairs", fn := fun _ => fun
  | [d1, d2, d3, d4] => { results := [.lit (.bool false)], args := [d1, d2, d3, d4] }
  | _ => none }
def ColorPairsWrongFalsely : Prop := colorPairsRow.holds Try.pinned (OpenSpec.ofChange colorPairsWrong)

/-- 'tactuslaw11.ColorLists': WHATEVER THE INPUT: true; the input reads as it did. -/
def colorListsSpec : ChangeSpec := { name := "colorLists", fn := fun _ => fun
  | [d1, d2, d3, d4] => { results := [.lit (.bool true)], args := [d1, d2, d3, d4] }
  | _ => none }
def colorListsRow : OpenClaim := { program := "yteecbmgddacioaa", sum := "0eb0b699905f418f8523d67d4dbbf4ddd984d1d93966547ae4ce98a04ee31e90", func := "tactus/tactuslaw11.ColorLists", spec := "colorLists", unfollowed := true, recurses := true, apart := false }
def ColorListsSaid : Prop := colorListsRow.holds Try.pinned (OpenSpec.ofChange colorListsSpec)

/-- ITS FALSE NEIGHBOUR: 'it returns false'. Refute it at one input. -/
def colorListsWrong : ChangeSpec := { name := "colorLists", fn := fun _ => fun
  | [d1, d2, d3, d4] => { results := [.lit (.bool false)], args := [d1, d2, d3, d4] }
  | _ => none }
def ColorListsWrongFalsely : Prop := colorListsRow.holds Try.pinned (OpenSpec.ofChange colorListsWrong)

/-- 'tactuslaw22.SpellAll': WHATEVER THE INPUT: true; the input reads as it did. -/
def spellAllSpec : ChangeSpec := { name := "spellAll", fn := fun _ => fun
  | [d1, d2] => { results := [.lit (.bool true)], args := [d1, d2] }
  | _ => none }
def spellAllRow : OpenClaim := { program := "yteecbmgddacioaa", sum := "0eb0b699905f418f8523d67d4dbbf4ddd984d1d93966547ae4ce98a04ee31e90", func := "tactus/tactuslaw22.SpellAll", spec := "spellAll", unfollowed := true, recurses := true, apart := false }
def SpellAllSaid : Prop := spellAllRow.holds Try.pinned (OpenSpec.ofChange spellAllSpec)

/-- ITS FALSE NEIGHBOUR: 'it returns false'. Refute it at one input. -/
def spellAllWrong : ChangeSpec := { name := "spellAll", fn := fun _ => fun
  | [d1, d2] => { results := [.lit (.bool false)], args := [d1, d2] }
  | _ => none }
def SpellAllWrongFalsely : Prop := spellAllRow.holds Try.pinned (OpenSpec.ofChange spellAllWrong)

/-- 'tactuslaw22.SpellPlain': WHATEVER THE INPUT: true; the input reads as it did. -/
def spellPlainSpec : ChangeSpec := { name := "spellPlain", fn := fun _ => fun
  | [d] => { results := [.lit (.bool true)], args := [d] }
  | _ => none }
def spellPlainRow : OpenClaim := { program := "yteecbmgddacioaa", sum := "0eb0b699905f418f8523d67d4dbbf4ddd984d1d93966547ae4ce98a04ee31e90", func := "tactus/tactuslaw22.SpellPlain", spec := "spellPlain", unfollowed := true, recurses := true, apart := false }
def SpellPlainSaid : Prop := spellPlainRow.holds Try.pinned (OpenSpec.ofChange spellPlainSpec)

/-- ITS FALSE NEIGHBOUR: 'it returns false'. Refute it at one input. -/
def spellPlainWrong : ChangeSpec := { name := "spellPlain", fn := fun _ => fun
  | [d] => { results := [.lit (.bool false)], args := [d] }
  | _ => none }
def SpellPlainWrongFalsely : Prop := spellPlainRow.holds Try.pinned (OpenSpec.ofChange spellPlainWrong)

/-- 'tactuslaw22.SpellTables': WHATEVER THE INPUT: true; the input reads as it did. -/
def spellTablesSpec : ChangeSpec := { name := "spellTables", fn := fun _ => fun
  | [d1, d2] => { results := [.lit (.bool true)], args := [d1, d2] }
  | _ => none }
def spellTablesRow : OpenClaim := { program := "yteecbmgddacioaa", sum := "0eb0b699905f418f8523d67d4dbbf4ddd984d1d93966547ae4ce98a04ee31e90", func := "tactus/tactuslaw22.SpellTables", spec := "spellTables", unfollowed := true, recurses := true, apart := false }
def SpellTablesSaid : Prop := spellTablesRow.holds Try.pinned (OpenSpec.ofChange spellTablesSpec)

/-- ITS FALSE NEIGHBOUR: 'it returns false'. Refute it at one input. -/
def spellTablesWrong : ChangeSpec := { name := "spellTables", fn := fun _ => fun
  | [d1, d2] => { results := [.lit (.bool false)], args := [d1, d2] }
  | _ => none }
def SpellTablesWrongFalsely : Prop := spellTablesRow.holds Try.pinned (OpenSpec.ofChange spellTablesWrong)

/-- 'tactuslaw22.SpellKnown': WHATEVER THE INPUT: true; the input reads as it did. -/
def spellKnownSpec : ChangeSpec := { name := "spellKnown", fn := fun _ => fun
  | [] => { results := [.lit (.bool true)], args := [] }
  | _ => none }
def spellKnownRow : OpenClaim := { program := "yteecbmgddacioaa", sum := "0eb0b699905f418f8523d67d4dbbf4ddd984d1d93966547ae4ce98a04ee31e90", func := "tactus/tactuslaw22.SpellKnown", spec := "spellKnown", unfollowed := true, recurses := true, apart := false }
def SpellKnownSaid : Prop := spellKnownRow.holds Try.pinned (OpenSpec.ofChange spellKnownSpec)

/-- ITS FALSE NEIGHBOUR: 'it returns false'. Refute it at one input. -/
def spellKnownWrong : ChangeSpec := { name := "spellKnown", fn := fun _ => fun
  | [] => { results := [.lit (.bool false)], args := [] }
  | _ => none }
def SpellKnownWrongFalsely : Prop := spellKnownRow.holds Try.pinned (OpenSpec.ofChange spellKnownWrong)

/- THE SECOND FORM. 'bulk': how many values and letters a reading holds, each counted each time it is reached (what is shared counts as often as it is met; a slice's spare places count too). A statement '..UptoSaid' is the law's where the arguments, and the package variables that the reading takes, are together of bulk at most 1048576: NARROWER than '..Said'. Prove '..Said' where nothing that the law and all that it calls make is longer than what came in: it says more and counts as full. Else prove '..UptoSaid'. A law counts once. -/
mutual
def uptoBulk {H : Type} : DataW H → Nat
  | .lit (.string bytes) => bytes.length + 1
  | .lit _ => 1
  | .nil => 1
  | .ptr d => uptoBulk d + 1
  | .slice elems spare => uptoBulkAll elems + uptoBulkAll spare + 1
  | .agg parts => uptoBulkAll parts + 1
  | .iface _ d => uptoBulk d + 1
  | .map entries => uptoBulkEntries entries + 1
  | .held _ => 1
def uptoBulkAll {H : Type} : List (DataW H) → Nat
  | [] => 0
  | d :: r => uptoBulk d + uptoBulkAll r
def uptoBulkEntries {H : Type} : List (Lit × DataW H) → Nat
  | [] => 0
  | x :: r => uptoBulkEntry x + uptoBulkEntries r
def uptoBulkEntry {H : Type} : Lit × DataW H → Nat
  | (.string bytes, d) => bytes.length + uptoBulk d + 1
  | (_, d) => uptoBulk d + 1
 end
def uptoSmall : (H : Type) → List (DataW H) → Bool := fun _ ds => decide (uptoBulkAll ds ≤ 1048576)
def OpenSpec.upto (s : _root_.Go.ChangeSpec) : _root_.Go.OpenSpec := { _root_.Go.OpenSpec.ofChange s with cond := some uptoSmall }

/-- 'tactuslaw22.SpellRests', WHERE WHAT IT READS IS OF BULK AT MOST 1048576: true; the input reads as it did. -/
def spellRestsUptoRow : OpenClaim := { program := "yteecbmgddacioaa", sum := "0eb0b699905f418f8523d67d4dbbf4ddd984d1d93966547ae4ce98a04ee31e90", func := "tactus/tactuslaw22.SpellRests", spec := "spellRests", unfollowed := true, recurses := true, apart := false, narrowed := true }
def SpellRestsUptoSaid : Prop := spellRestsUptoRow.holds Try.pinned (OpenSpec.upto spellRestsSpec)

/-- 'tactuslaw09.DotMeanings', WHERE WHAT IT READS IS OF BULK AT MOST 1048576: true; the input reads as it did. -/
def dotMeaningsUptoRow : OpenClaim := { program := "yteecbmgddacioaa", sum := "0eb0b699905f418f8523d67d4dbbf4ddd984d1d93966547ae4ce98a04ee31e90", func := "tactus/tactuslaw09.DotMeanings", spec := "dotMeanings", unfollowed := true, recurses := true, apart := false, narrowed := true }
def DotMeaningsUptoSaid : Prop := dotMeaningsUptoRow.holds Try.pinned (OpenSpec.upto dotMeaningsSpec)

/-- 'tactuslaw09.DotChosen', WHERE WHAT IT READS IS OF BULK AT MOST 1048576: true; the input reads as it did. -/
def dotChosenUptoRow : OpenClaim := { program := "yteecbmgddacioaa", sum := "0eb0b699905f418f8523d67d4dbbf4ddd984d1d93966547ae4ce98a04ee31e90", func := "tactus/tactuslaw09.DotChosen", spec := "dotChosen", unfollowed := true, recurses := true, apart := false, narrowed := true }
def DotChosenUptoSaid : Prop := dotChosenUptoRow.holds Try.pinned (OpenSpec.upto dotChosenSpec)

/-- 'tactuslaw09.DotKnown', WHERE WHAT IT READS IS OF BULK AT MOST 1048576: true; the input reads as it did. -/
def dotKnownUptoRow : OpenClaim := { program := "yteecbmgddacioaa", sum := "0eb0b699905f418f8523d67d4dbbf4ddd984d1d93966547ae4ce98a04ee31e90", func := "tactus/tactuslaw09.DotKnown", spec := "dotKnown", unfollowed := true, recurses := true, apart := false, narrowed := true }
def DotKnownUptoSaid : Prop := dotKnownUptoRow.holds Try.pinned (OpenSpec.upto dotKnownSpec)

/-- 'tactuslaw09.DotTwo', WHERE WHAT IT READS IS OF BULK AT MOST 1048576: true; the input reads as it did. -/
def dotTwoUptoRow : OpenClaim := { program := "yteecbmgddacioaa", sum := "0eb0b699905f418f8523d67d4dbbf4ddd984d1d93966547ae4ce98a04ee31e90", func := "tactus/tactuslaw09.DotTwo", spec := "dotTwo", unfollowed := true, recurses := true, apart := false, narrowed := true }
def DotTwoUptoSaid : Prop := dotTwoUptoRow.holds Try.pinned (OpenSpec.upto dotTwoSpec)

/-- 'tactuslaw09.DotNumbered', WHERE WHAT IT READS IS OF BULK AT MOST 1048576: true; the input reads as it did. -/
def dotNumberedUptoRow : OpenClaim := { program := "yteecbmgddacioaa", sum := "0eb0b699905f418f8523d67d4dbbf4ddd984d1d93966547ae4ce98a04ee31e90", func := "tactus/tactuslaw09.DotNumbered", spec := "dotNumbered", unfollowed := true, recurses := true, apart := false, narrowed := true }
def DotNumberedUptoSaid : Prop := dotNumberedUptoRow.holds Try.pinned (OpenSpec.upto dotNumberedSpec)

/-- 'tactuslaw09.DotBinary', WHERE WHAT IT READS IS OF BULK AT MOST 1048576: true; the input reads as it did. -/
def dotBinaryUptoRow : OpenClaim := { program := "yteecbmgddacioaa", sum := "0eb0b699905f418f8523d67d4dbbf4ddd984d1d93966547ae4ce98a04ee31e90", func := "tactus/tactuslaw09.DotBinary", spec := "dotBinary", unfollowed := true, recurses := true, apart := false, narrowed := true }
def DotBinaryUptoSaid : Prop := dotBinaryUptoRow.holds Try.pinned (OpenSpec.upto dotBinarySpec)

/-- 'tactuslaw09.DotLocal', WHERE WHAT IT READS IS OF BULK AT MOST 1048576: true; the input reads as it did. -/
def dotLocalUptoRow : OpenClaim := { program := "yteecbmgddacioaa", sum := "0eb0b699905f418f8523d67d4dbbf4ddd984d1d93966547ae4ce98a04ee31e90", func := "tactus/tactuslaw09.DotLocal", spec := "dotLocal", unfollowed := true, recurses := true, apart := false, narrowed := true }
def DotLocalUptoSaid : Prop := dotLocalUptoRow.holds Try.pinned (OpenSpec.upto dotLocalSpec)

/-- 'tactuslaw11.ColorDurs', WHERE WHAT IT READS IS OF BULK AT MOST 1048576: true; the input reads as it did. -/
def colorDursUptoRow : OpenClaim := { program := "yteecbmgddacioaa", sum := "0eb0b699905f418f8523d67d4dbbf4ddd984d1d93966547ae4ce98a04ee31e90", func := "tactus/tactuslaw11.ColorDurs", spec := "colorDurs", unfollowed := true, recurses := true, apart := false, narrowed := true }
def ColorDursUptoSaid : Prop := colorDursUptoRow.holds Try.pinned (OpenSpec.upto colorDursSpec)

/-- 'tactuslaw11.ColorNeutral', WHERE WHAT IT READS IS OF BULK AT MOST 1048576: true; the input reads as it did. -/
def colorNeutralUptoRow : OpenClaim := { program := "yteecbmgddacioaa", sum := "0eb0b699905f418f8523d67d4dbbf4ddd984d1d93966547ae4ce98a04ee31e90", func := "tactus/tactuslaw11.ColorNeutral", spec := "colorNeutral", unfollowed := true, recurses := true, apart := false, narrowed := true }
def ColorNeutralUptoSaid : Prop := colorNeutralUptoRow.holds Try.pinned (OpenSpec.upto colorNeutralSpec)

/-- 'tactuslaw11.ColorApart', WHERE WHAT IT READS IS OF BULK AT MOST 1048576: true; the input reads as it did. -/
def colorApartUptoRow : OpenClaim := { program := "yteecbmgddacioaa", sum := "0eb0b699905f418f8523d67d4dbbf4ddd984d1d93966547ae4ce98a04ee31e90", func := "tactus/tactuslaw11.ColorApart", spec := "colorApart", unfollowed := true, recurses := true, apart := false, narrowed := true }
def ColorApartUptoSaid : Prop := colorApartUptoRow.holds Try.pinned (OpenSpec.upto colorApartSpec)

/-- 'tactuslaw11.ColorThirds', WHERE WHAT IT READS IS OF BULK AT MOST 1048576: true; the input reads as it did. -/
def colorThirdsUptoRow : OpenClaim := { program := "yteecbmgddacioaa", sum := "0eb0b699905f418f8523d67d4dbbf4ddd984d1d93966547ae4ce98a04ee31e90", func := "tactus/tactuslaw11.ColorThirds", spec := "colorThirds", unfollowed := true, recurses := true, apart := false, narrowed := true }
def ColorThirdsUptoSaid : Prop := colorThirdsUptoRow.holds Try.pinned (OpenSpec.upto colorThirdsSpec)

/-- 'tactuslaw11.ColorKnown', WHERE WHAT IT READS IS OF BULK AT MOST 1048576: true; the input reads as it did. -/
def colorKnownUptoRow : OpenClaim := { program := "yteecbmgddacioaa", sum := "0eb0b699905f418f8523d67d4dbbf4ddd984d1d93966547ae4ce98a04ee31e90", func := "tactus/tactuslaw11.ColorKnown", spec := "colorKnown", unfollowed := true, recurses := true, apart := false, narrowed := true }
def ColorKnownUptoSaid : Prop := colorKnownUptoRow.holds Try.pinned (OpenSpec.upto colorKnownSpec)

/-- 'tactuslaw11.ColorPairs', WHERE WHAT IT READS IS OF BULK AT MOST 1048576: true; the input reads as it did. -/
def colorPairsUptoRow : OpenClaim := { program := "yteecbmgddacioaa", sum := "0eb0b699905f418f8523d67d4dbbf4ddd984d1d93966547ae4ce98a04ee31e90", func := "tactus/tactuslaw11.ColorPairs", spec := "colorPairs", unfollowed := true, recurses := true, apart := false, narrowed := true }
def ColorPairsUptoSaid : Prop := colorPairsUptoRow.holds Try.pinned (OpenSpec.upto colorPairsSpec)

/-- 'tactuslaw11.ColorLists', WHERE WHAT IT READS IS OF BULK AT MOST 1048576: true; the input reads as it did. -/
def colorListsUptoRow : OpenClaim := { program := "yteecbmgddacioaa", sum := "0eb0b699905f418f8523d67d4dbbf4ddd984d1d93966547ae4ce98a04ee31e90", func := "tactus/tactuslaw11.ColorLists", spec := "colorLists", unfollowed := true, recurses := true, apart := false, narrowed := true }
def ColorListsUptoSaid : Prop := colorListsUptoRow.holds Try.pinned (OpenSpec.upto colorListsSpec)

/-- 'tactuslaw22.SpellAll', WHERE WHAT IT READS IS OF BULK AT MOST 1048576: true; the input reads as it did. -/
def spellAllUptoRow : OpenClaim := { program := "yteecbmgddacioaa", sum := "0eb0b699905f418f8523d67d4dbbf4ddd984d1d93966547ae4ce98a04ee31e90", func := "tactus/tactuslaw22.SpellAll", spec := "spellAll", unfollowed := true, recurses := true, apart := false, narrowed := true }
def SpellAllUptoSaid : Prop := spellAllUptoRow.holds Try.pinned (OpenSpec.upto spellAllSpec)

/-- 'tactuslaw22.SpellPlain', WHERE WHAT IT READS IS OF BULK AT MOST 1048576: true; the input reads as it did. -/
def spellPlainUptoRow : OpenClaim := { program := "yteecbmgddacioaa", sum := "0eb0b699905f418f8523d67d4dbbf4ddd984d1d93966547ae4ce98a04ee31e90", func := "tactus/tactuslaw22.SpellPlain", spec := "spellPlain", unfollowed := true, recurses := true, apart := false, narrowed := true }
def SpellPlainUptoSaid : Prop := spellPlainUptoRow.holds Try.pinned (OpenSpec.upto spellPlainSpec)

/-- 'tactuslaw22.SpellTables', WHERE WHAT IT READS IS OF BULK AT MOST 1048576: true; the input reads as it did. -/
def spellTablesUptoRow : OpenClaim := { program := "yteecbmgddacioaa", sum := "0eb0b699905f418f8523d67d4dbbf4ddd984d1d93966547ae4ce98a04ee31e90", func := "tactus/tactuslaw22.SpellTables", spec := "spellTables", unfollowed := true, recurses := true, apart := false, narrowed := true }
def SpellTablesUptoSaid : Prop := spellTablesUptoRow.holds Try.pinned (OpenSpec.upto spellTablesSpec)

/-- 'tactuslaw22.SpellKnown', WHERE WHAT IT READS IS OF BULK AT MOST 1048576: true; the input reads as it did. -/
def spellKnownUptoRow : OpenClaim := { program := "yteecbmgddacioaa", sum := "0eb0b699905f418f8523d67d4dbbf4ddd984d1d93966547ae4ce98a04ee31e90", func := "tactus/tactuslaw22.SpellKnown", spec := "spellKnown", unfollowed := true, recurses := true, apart := false, narrowed := true }
def SpellKnownUptoSaid : Prop := spellKnownUptoRow.holds Try.pinned (OpenSpec.upto spellKnownSpec)

end Rows
end Go.Proofs.Yteecbmgddacioaa
