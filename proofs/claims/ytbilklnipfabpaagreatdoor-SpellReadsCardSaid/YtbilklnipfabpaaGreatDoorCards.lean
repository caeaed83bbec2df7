/-
  DERIVED. GIVEN WITH THE SEED: THE CARDS: each row of YtbilklnipfabpaaGreatDoorRows.lean that lists a variable, with what it lists TIED to the program's text (the seventh form; the later family's looks); each row that meets fmt, with fmt's text TOLD by the authors' own Lean function (tested against real Go, not proved from fmt's source: count such statements apart). THE CARD IS WHAT COUNTS. Prove the row's statement (the work); the ties are given (YtbilklnipfabpaaGreatDoorTie.lean); close each card by the builder's one call (the guide's Derived/Test/ToyasCard.lean, 'card_holds'). Laid BY PROGRAM, IN A SANDBOX (cutbox-door.mjs). By AI agents, Wed Nov 11 2026. No macro, syntax, notation, axiom, sorry.
-/
import Derived.Test.YtbilklnipfabpaaGreatDoorRows
import GoSem.ClaimSeven
namespace Go.Proofs.YtbilklnipfabpaaGreatDoor
namespace Rows

/-- THE TIED CARD OF 'tactuslaw22.SpellReads'. -/
def spellReadsCard : Claim7 := { stood := { row := spellReadsRow, standIns := [], harness := (true, "38139d135f9985273e88ac8a6e383b067e275c3c73e0180ec12ecf7f1e12d06e"), looks := true }, kinds := [], alts := [], laidByText := true, laidKinds := [.data], laidTests := true, laidLooks := .later }
def SpellReadsCardSaid : Prop := Claim7.holds Tryz.pinned (.plain (OpenSpec.ofChange spellReadsSpec)) spellReadsCard

/-- THE TIED CARD OF 'tactuslaw18.ChoicesEach'. -/
def choicesEachCard : Claim7 := { stood := { row := choicesEachRow, standIns := [], harness := (true, "38139d135f9985273e88ac8a6e383b067e275c3c73e0180ec12ecf7f1e12d06e"), looks := true }, kinds := [], alts := [], laidByText := true, laidKinds := [.data], laidTests := true, laidLooks := .later }
def ChoicesEachCardSaid : Prop := Claim7.holds Tryz.pinned (.plain (OpenSpec.ofChange choicesEachSpec)) choicesEachCard

/-- THE TIED CARD OF 'tactuslaw18.ChoicesEnds'. -/
def choicesEndsCard : Claim7 := { stood := { row := choicesEndsRow, standIns := [], harness := (true, "38139d135f9985273e88ac8a6e383b067e275c3c73e0180ec12ecf7f1e12d06e"), looks := true }, kinds := [], alts := [], laidByText := true, laidKinds := [.data], laidTests := true, laidLooks := .later }
def ChoicesEndsCardSaid : Prop := Claim7.holds Tryz.pinned (.plain (OpenSpec.ofChange choicesEndsSpec)) choicesEndsCard

/-- THE TIED CARD OF 'tactuslaw18.ChoicesKnown'. -/
def choicesKnownCard : Claim7 := { stood := { row := choicesKnownRow, standIns := [], harness := (true, "38139d135f9985273e88ac8a6e383b067e275c3c73e0180ec12ecf7f1e12d06e"), looks := true }, kinds := [], alts := [], laidByText := true, laidKinds := [.data], laidTests := true, laidLooks := .later }
def ChoicesKnownCardSaid : Prop := Claim7.holds Tryz.pinned (.plain (OpenSpec.ofChange choicesKnownSpec)) choicesKnownCard

/-- THE SECOND FORM's CARD OF 'tactuslaw22.SpellReads'. -/
def spellReadsUptoCard : Claim7 := { stood := { row := spellReadsUptoRow, standIns := [], harness := (true, "38139d135f9985273e88ac8a6e383b067e275c3c73e0180ec12ecf7f1e12d06e"), looks := true }, kinds := [], alts := [], laidByText := true, laidKinds := [.data], laidTests := true, laidLooks := .later }
def SpellReadsUptoCardSaid : Prop := Claim7.holds Tryz.pinned (.plain (OpenSpec.upto spellReadsSpec)) spellReadsUptoCard

/-- THE SECOND FORM's CARD OF 'tactuslaw18.ChoicesEach'. -/
def choicesEachUptoCard : Claim7 := { stood := { row := choicesEachUptoRow, standIns := [], harness := (true, "38139d135f9985273e88ac8a6e383b067e275c3c73e0180ec12ecf7f1e12d06e"), looks := true }, kinds := [], alts := [], laidByText := true, laidKinds := [.data], laidTests := true, laidLooks := .later }
def ChoicesEachUptoCardSaid : Prop := Claim7.holds Tryz.pinned (.plain (OpenSpec.upto choicesEachSpec)) choicesEachUptoCard

/-- THE SECOND FORM's CARD OF 'tactuslaw18.ChoicesEnds'. -/
def choicesEndsUptoCard : Claim7 := { stood := { row := choicesEndsUptoRow, standIns := [], harness := (true, "38139d135f9985273e88ac8a6e383b067e275c3c73e0180ec12ecf7f1e12d06e"), looks := true }, kinds := [], alts := [], laidByText := true, laidKinds := [.data], laidTests := true, laidLooks := .later }
def ChoicesEndsUptoCardSaid : Prop := Claim7.holds Tryz.pinned (.plain (OpenSpec.upto choicesEndsSpec)) choicesEndsUptoCard

/-- THE SECOND FORM's CARD OF 'tactuslaw18.ChoicesKnown'. -/
def choicesKnownUptoCard : Claim7 := { stood := { row := choicesKnownUptoRow, standIns := [], harness := (true, "38139d135f9985273e88ac8a6e383b067e275c3c73e0180ec12ecf7f1e12d06e"), looks := true }, kinds := [], alts := [], laidByText := true, laidKinds := [.data], laidTests := true, laidLooks := .later }
def ChoicesKnownUptoCardSaid : Prop := Claim7.holds Tryz.pinned (.plain (OpenSpec.upto choicesKnownSpec)) choicesKnownUptoCard
end Rows
end Go.Proofs.YtbilklnipfabpaaGreatDoor
