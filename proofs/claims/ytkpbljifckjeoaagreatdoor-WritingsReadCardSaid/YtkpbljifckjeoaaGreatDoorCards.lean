/-
  DERIVED. GIVEN WITH THE SEED: THE CARDS: each row of YtkpbljifckjeoaaGreatDoorRows.lean that lists a variable, with what it lists TIED to the program's text (the seventh form; the later family's looks); each row that meets fmt, with fmt's text TOLD by the authors' own Lean function (tested against real Go, not proved from fmt's source: count such statements apart). THE CARD IS WHAT COUNTS. Prove the row's statement (the work); the ties are given (YtkpbljifckjeoaaGreatDoorTie.lean); close each card by the builder's one call (the guide's Derived/Test/ToyasCard.lean, 'card_holds'). Laid BY PROGRAM, IN A SANDBOX (cutbox-door.mjs). By AI agents, Wed Nov 11 2026. No macro, syntax, notation, axiom, sorry.
-/
import Derived.Test.YtkpbljifckjeoaaGreatDoorRows
import GoSem.ClaimSeven
namespace Go.Proofs.YtkpbljifckjeoaaGreatDoor
namespace Rows

/-- THE TIED CARD OF 'tactuslaw24.WritingsKnown'. -/
def writingsKnownCard : Claim7 := { stood := { row := writingsKnownRow, standIns := [], harness := (true, "2b6ce2b41f7248995984e9623510a40bf862009a4fbc2b02e14c0e5e3a1536a3"), looks := true }, kinds := [], alts := [], laidByText := true, laidKinds := [.data], laidTests := true, laidLooks := .later }
def WritingsKnownCardSaid : Prop := Claim7.holds Tryz.pinned (.plain (OpenSpec.ofChange writingsKnownSpec)) writingsKnownCard

/-- THE TIED CARD OF 'tactuslaw24.WritingsHabits'. -/
def writingsHabitsCard : Claim7 := { stood := { row := writingsHabitsRow, standIns := [], harness := (true, "2b6ce2b41f7248995984e9623510a40bf862009a4fbc2b02e14c0e5e3a1536a3"), looks := true }, kinds := [], alts := [], laidByText := true, laidKinds := [.data], laidTests := true, laidLooks := .later }
def WritingsHabitsCardSaid : Prop := Claim7.holds Tryz.pinned (.plain (OpenSpec.ofChange writingsHabitsSpec)) writingsHabitsCard

/-- THE TIED CARD OF 'tactuslaw24.WritingsBest'. -/
def writingsBestCard : Claim7 := { stood := { row := writingsBestRow, standIns := [], harness := (true, "2b6ce2b41f7248995984e9623510a40bf862009a4fbc2b02e14c0e5e3a1536a3"), looks := true }, kinds := [], alts := [], laidByText := true, laidKinds := [.data], laidTests := true, laidLooks := .later }
def WritingsBestCardSaid : Prop := Claim7.holds Tryz.pinned (.plain (OpenSpec.ofChange writingsBestSpec)) writingsBestCard

/-- THE TIED CARD OF 'tactuslaw24.WritingsRead'. -/
def writingsReadCard : Claim7 := { stood := { row := writingsReadRow, standIns := [], harness := (true, "2b6ce2b41f7248995984e9623510a40bf862009a4fbc2b02e14c0e5e3a1536a3"), looks := true }, kinds := [], alts := [], laidByText := true, laidKinds := [.data], laidTests := true, laidLooks := .later }
def WritingsReadCardSaid : Prop := Claim7.holds Tryz.pinned (.plain (OpenSpec.ofChange writingsReadSpec)) writingsReadCard

/-- THE SECOND FORM's CARD OF 'tactuslaw24.WritingsKnown'. -/
def writingsKnownUptoCard : Claim7 := { stood := { row := writingsKnownUptoRow, standIns := [], harness := (true, "2b6ce2b41f7248995984e9623510a40bf862009a4fbc2b02e14c0e5e3a1536a3"), looks := true }, kinds := [], alts := [], laidByText := true, laidKinds := [.data], laidTests := true, laidLooks := .later }
def WritingsKnownUptoCardSaid : Prop := Claim7.holds Tryz.pinned (.plain (OpenSpec.upto writingsKnownSpec)) writingsKnownUptoCard

/-- THE SECOND FORM's CARD OF 'tactuslaw24.WritingsHabits'. -/
def writingsHabitsUptoCard : Claim7 := { stood := { row := writingsHabitsUptoRow, standIns := [], harness := (true, "2b6ce2b41f7248995984e9623510a40bf862009a4fbc2b02e14c0e5e3a1536a3"), looks := true }, kinds := [], alts := [], laidByText := true, laidKinds := [.data], laidTests := true, laidLooks := .later }
def WritingsHabitsUptoCardSaid : Prop := Claim7.holds Tryz.pinned (.plain (OpenSpec.upto writingsHabitsSpec)) writingsHabitsUptoCard

/-- THE SECOND FORM's CARD OF 'tactuslaw24.WritingsBest'. -/
def writingsBestUptoCard : Claim7 := { stood := { row := writingsBestUptoRow, standIns := [], harness := (true, "2b6ce2b41f7248995984e9623510a40bf862009a4fbc2b02e14c0e5e3a1536a3"), looks := true }, kinds := [], alts := [], laidByText := true, laidKinds := [.data], laidTests := true, laidLooks := .later }
def WritingsBestUptoCardSaid : Prop := Claim7.holds Tryz.pinned (.plain (OpenSpec.upto writingsBestSpec)) writingsBestUptoCard

/-- THE SECOND FORM's CARD OF 'tactuslaw24.WritingsRead'. -/
def writingsReadUptoCard : Claim7 := { stood := { row := writingsReadUptoRow, standIns := [], harness := (true, "2b6ce2b41f7248995984e9623510a40bf862009a4fbc2b02e14c0e5e3a1536a3"), looks := true }, kinds := [], alts := [], laidByText := true, laidKinds := [.data], laidTests := true, laidLooks := .later }
def WritingsReadUptoCardSaid : Prop := Claim7.holds Tryz.pinned (.plain (OpenSpec.upto writingsReadSpec)) writingsReadUptoCard
end Rows
end Go.Proofs.YtkpbljifckjeoaaGreatDoor
