/-
  DERIVED. GIVEN WITH THE SEED: THE CARDS: each row of YtggdlojopkoegaaGreatDoorRows.lean that lists a variable, with what it lists TIED to the program's text (the seventh form; the later family's looks); each row that meets fmt, with fmt's text TOLD by the authors' own Lean function (tested against real Go, not proved from fmt's source: count such statements apart). THE CARD IS WHAT COUNTS. Prove the row's statement (the work); the ties are given (YtggdlojopkoegaaGreatDoorTie.lean); close each card by the builder's one call (the guide's Derived/Test/ToyasCard.lean, 'card_holds'). Laid BY PROGRAM, IN A SANDBOX (cutbox-door.mjs). By AI agents, Wed Nov 11 2026. No macro, syntax, notation, axiom, sorry.
-/
import Derived.Test.YtggdlojopkoegaaGreatDoorRows
import GoSem.ClaimSeven
namespace Go.Proofs.YtggdlojopkoegaaGreatDoor
namespace Rows

/-- THE TIED CARD OF 'tactuslaw24.WritingsMinimal'. -/
def writingsMinimalCard : Claim7 := { stood := { row := writingsMinimalRow, standIns := [], harness := (true, "78766b211a16289dc2a1cced62552392396576177f6b7c4d4e4b6cd9f1158168"), looks := true }, kinds := [], alts := [], laidByText := true, laidKinds := [.data], laidTests := true, laidLooks := .later }
def WritingsMinimalCardSaid : Prop := Claim7.holds Tryz.pinned (.plain (OpenSpec.ofChange writingsMinimalSpec)) writingsMinimalCard

/-- THE TIED CARD OF 'tactuslaw23.WriteForms'. -/
def writeFormsCard : Claim7 := { stood := { row := writeFormsRow, standIns := [], harness := (true, "78766b211a16289dc2a1cced62552392396576177f6b7c4d4e4b6cd9f1158168"), looks := true }, kinds := [], alts := [], laidByText := true, laidKinds := [.data], laidTests := true, laidLooks := .later }
def WriteFormsCardSaid : Prop := Claim7.holds Tryz.pinned (.plain (OpenSpec.ofChange writeFormsSpec)) writeFormsCard

/-- THE TIED CARD OF 'tactuslaw23.WriteIs'. -/
def writeIsCard : Claim7 := { stood := { row := writeIsRow, standIns := [], harness := (true, "78766b211a16289dc2a1cced62552392396576177f6b7c4d4e4b6cd9f1158168"), looks := true }, kinds := [], alts := [], laidByText := true, laidKinds := [.data], laidTests := true, laidLooks := .later }
def WriteIsCardSaid : Prop := Claim7.holds Tryz.pinned (.plain (OpenSpec.ofChange writeIsSpec)) writeIsCard

/-- THE TIED CARD OF 'tactuslaw23.WriteWrites'. -/
def writeWritesCard : Claim7 := { stood := { row := writeWritesRow, standIns := [], harness := (true, "78766b211a16289dc2a1cced62552392396576177f6b7c4d4e4b6cd9f1158168"), looks := true }, kinds := [], alts := [], laidByText := true, laidKinds := [.data], laidTests := true, laidLooks := .later }
def WriteWritesCardSaid : Prop := Claim7.holds Tryz.pinned (.plain (OpenSpec.ofChange writeWritesSpec)) writeWritesCard

/-- THE TIED CARD OF 'tactuslaw23.WriteKnown'. -/
def writeKnownCard : Claim7 := { stood := { row := writeKnownRow, standIns := [], harness := (true, "78766b211a16289dc2a1cced62552392396576177f6b7c4d4e4b6cd9f1158168"), looks := true }, kinds := [], alts := [], laidByText := true, laidKinds := [.data], laidTests := true, laidLooks := .later }
def WriteKnownCardSaid : Prop := Claim7.holds Tryz.pinned (.plain (OpenSpec.ofChange writeKnownSpec)) writeKnownCard

/-- THE TIED CARD OF 'tactuslaw23.WriteMore'. -/
def writeMoreCard : Claim7 := { stood := { row := writeMoreRow, standIns := [], harness := (true, "78766b211a16289dc2a1cced62552392396576177f6b7c4d4e4b6cd9f1158168"), looks := true }, kinds := [], alts := [], laidByText := true, laidKinds := [.data], laidTests := true, laidLooks := .later }
def WriteMoreCardSaid : Prop := Claim7.holds Tryz.pinned (.plain (OpenSpec.ofChange writeMoreSpec)) writeMoreCard

/-- THE TIED CARD OF 'tactuslaw23.WriteAlone'. -/
def writeAloneCard : Claim7 := { stood := { row := writeAloneRow, standIns := [], harness := (true, "78766b211a16289dc2a1cced62552392396576177f6b7c4d4e4b6cd9f1158168"), looks := true }, kinds := [], alts := [], laidByText := true, laidKinds := [.data], laidTests := true, laidLooks := .later }
def WriteAloneCardSaid : Prop := Claim7.holds Tryz.pinned (.plain (OpenSpec.ofChange writeAloneSpec)) writeAloneCard

/-- THE TIED CARD OF 'tactuslaw23.WriteBlocks'. -/
def writeBlocksCard : Claim7 := { stood := { row := writeBlocksRow, standIns := [], harness := (true, "78766b211a16289dc2a1cced62552392396576177f6b7c4d4e4b6cd9f1158168"), looks := true }, kinds := [], alts := [], laidByText := true, laidKinds := [.data], laidTests := true, laidLooks := .later }
def WriteBlocksCardSaid : Prop := Claim7.holds Tryz.pinned (.plain (OpenSpec.ofChange writeBlocksSpec)) writeBlocksCard

/-- THE TIED CARD OF 'tactuslaw24.WritingsAll'. -/
def writingsAllCard : Claim7 := { stood := { row := writingsAllRow, standIns := [], harness := (true, "78766b211a16289dc2a1cced62552392396576177f6b7c4d4e4b6cd9f1158168"), looks := true }, kinds := [], alts := [], laidByText := true, laidKinds := [.data], laidTests := true, laidLooks := .later }
def WritingsAllCardSaid : Prop := Claim7.holds Tryz.pinned (.plain (OpenSpec.ofChange writingsAllSpec)) writingsAllCard

/-- THE TIED CARD OF 'tactuslaw24.WritingsUnder'. -/
def writingsUnderCard : Claim7 := { stood := { row := writingsUnderRow, standIns := [], harness := (true, "78766b211a16289dc2a1cced62552392396576177f6b7c4d4e4b6cd9f1158168"), looks := true }, kinds := [], alts := [], laidByText := true, laidKinds := [.data], laidTests := true, laidLooks := .later }
def WritingsUnderCardSaid : Prop := Claim7.holds Tryz.pinned (.plain (OpenSpec.ofChange writingsUnderSpec)) writingsUnderCard

/-- THE TIED CARD OF 'tactuslaw24.WritingsKnown'. -/
def writingsKnownCard : Claim7 := { stood := { row := writingsKnownRow, standIns := [], harness := (true, "78766b211a16289dc2a1cced62552392396576177f6b7c4d4e4b6cd9f1158168"), looks := true }, kinds := [], alts := [], laidByText := true, laidKinds := [.data], laidTests := true, laidLooks := .later }
def WritingsKnownCardSaid : Prop := Claim7.holds Tryz.pinned (.plain (OpenSpec.ofChange writingsKnownSpec)) writingsKnownCard

/-- THE TIED CARD OF 'tactuslaw24.WritingsHabits'. -/
def writingsHabitsCard : Claim7 := { stood := { row := writingsHabitsRow, standIns := [], harness := (true, "78766b211a16289dc2a1cced62552392396576177f6b7c4d4e4b6cd9f1158168"), looks := true }, kinds := [], alts := [], laidByText := true, laidKinds := [.data], laidTests := true, laidLooks := .later }
def WritingsHabitsCardSaid : Prop := Claim7.holds Tryz.pinned (.plain (OpenSpec.ofChange writingsHabitsSpec)) writingsHabitsCard

/-- THE TIED CARD OF 'tactuslaw24.WritingsBest'. -/
def writingsBestCard : Claim7 := { stood := { row := writingsBestRow, standIns := [], harness := (true, "78766b211a16289dc2a1cced62552392396576177f6b7c4d4e4b6cd9f1158168"), looks := true }, kinds := [], alts := [], laidByText := true, laidKinds := [.data], laidTests := true, laidLooks := .later }
def WritingsBestCardSaid : Prop := Claim7.holds Tryz.pinned (.plain (OpenSpec.ofChange writingsBestSpec)) writingsBestCard

/-- THE TIED CARD OF 'tactuslaw23.WriteParts'. -/
def writePartsCard : Claim7 := { stood := { row := writePartsRow, standIns := [], harness := (true, "78766b211a16289dc2a1cced62552392396576177f6b7c4d4e4b6cd9f1158168"), looks := true }, kinds := [], alts := [], laidByText := true, laidKinds := [.data], laidTests := true, laidLooks := .later }
def WritePartsCardSaid : Prop := Claim7.holds Tryz.pinned (.plain (OpenSpec.ofChange writePartsSpec)) writePartsCard

/-- THE TIED CARD OF 'tactuslaw24.WritingsRead'. -/
def writingsReadCard : Claim7 := { stood := { row := writingsReadRow, standIns := [], harness := (true, "78766b211a16289dc2a1cced62552392396576177f6b7c4d4e4b6cd9f1158168"), looks := true }, kinds := [], alts := [], laidByText := true, laidKinds := [.data], laidTests := true, laidLooks := .later }
def WritingsReadCardSaid : Prop := Claim7.holds Tryz.pinned (.plain (OpenSpec.ofChange writingsReadSpec)) writingsReadCard

/-- THE TIED CARD OF 'tactuslaw23.WriteBack'. -/
def writeBackCard : Claim7 := { stood := { row := writeBackRow, standIns := [], harness := (true, "78766b211a16289dc2a1cced62552392396576177f6b7c4d4e4b6cd9f1158168"), looks := true }, kinds := [], alts := [], laidByText := true, laidKinds := [.data, .data, .data], laidTests := true, laidLooks := .later }
def WriteBackCardSaid : Prop := Claim7.holds Tryz.pinned (.plain (OpenSpec.ofChange writeBackSpec)) writeBackCard

/-- THE SECOND FORM's CARD OF 'tactuslaw24.WritingsMinimal'. -/
def writingsMinimalUptoCard : Claim7 := { stood := { row := writingsMinimalUptoRow, standIns := [], harness := (true, "78766b211a16289dc2a1cced62552392396576177f6b7c4d4e4b6cd9f1158168"), looks := true }, kinds := [], alts := [], laidByText := true, laidKinds := [.data], laidTests := true, laidLooks := .later }
def WritingsMinimalUptoCardSaid : Prop := Claim7.holds Tryz.pinned (.plain (OpenSpec.upto writingsMinimalSpec)) writingsMinimalUptoCard

/-- THE SECOND FORM's CARD OF 'tactuslaw23.WriteForms'. -/
def writeFormsUptoCard : Claim7 := { stood := { row := writeFormsUptoRow, standIns := [], harness := (true, "78766b211a16289dc2a1cced62552392396576177f6b7c4d4e4b6cd9f1158168"), looks := true }, kinds := [], alts := [], laidByText := true, laidKinds := [.data], laidTests := true, laidLooks := .later }
def WriteFormsUptoCardSaid : Prop := Claim7.holds Tryz.pinned (.plain (OpenSpec.upto writeFormsSpec)) writeFormsUptoCard

/-- THE SECOND FORM's CARD OF 'tactuslaw23.WriteIs'. -/
def writeIsUptoCard : Claim7 := { stood := { row := writeIsUptoRow, standIns := [], harness := (true, "78766b211a16289dc2a1cced62552392396576177f6b7c4d4e4b6cd9f1158168"), looks := true }, kinds := [], alts := [], laidByText := true, laidKinds := [.data], laidTests := true, laidLooks := .later }
def WriteIsUptoCardSaid : Prop := Claim7.holds Tryz.pinned (.plain (OpenSpec.upto writeIsSpec)) writeIsUptoCard

/-- THE SECOND FORM's CARD OF 'tactuslaw23.WriteWrites'. -/
def writeWritesUptoCard : Claim7 := { stood := { row := writeWritesUptoRow, standIns := [], harness := (true, "78766b211a16289dc2a1cced62552392396576177f6b7c4d4e4b6cd9f1158168"), looks := true }, kinds := [], alts := [], laidByText := true, laidKinds := [.data], laidTests := true, laidLooks := .later }
def WriteWritesUptoCardSaid : Prop := Claim7.holds Tryz.pinned (.plain (OpenSpec.upto writeWritesSpec)) writeWritesUptoCard

/-- THE SECOND FORM's CARD OF 'tactuslaw23.WriteKnown'. -/
def writeKnownUptoCard : Claim7 := { stood := { row := writeKnownUptoRow, standIns := [], harness := (true, "78766b211a16289dc2a1cced62552392396576177f6b7c4d4e4b6cd9f1158168"), looks := true }, kinds := [], alts := [], laidByText := true, laidKinds := [.data], laidTests := true, laidLooks := .later }
def WriteKnownUptoCardSaid : Prop := Claim7.holds Tryz.pinned (.plain (OpenSpec.upto writeKnownSpec)) writeKnownUptoCard

/-- THE SECOND FORM's CARD OF 'tactuslaw23.WriteMore'. -/
def writeMoreUptoCard : Claim7 := { stood := { row := writeMoreUptoRow, standIns := [], harness := (true, "78766b211a16289dc2a1cced62552392396576177f6b7c4d4e4b6cd9f1158168"), looks := true }, kinds := [], alts := [], laidByText := true, laidKinds := [.data], laidTests := true, laidLooks := .later }
def WriteMoreUptoCardSaid : Prop := Claim7.holds Tryz.pinned (.plain (OpenSpec.upto writeMoreSpec)) writeMoreUptoCard

/-- THE SECOND FORM's CARD OF 'tactuslaw23.WriteAlone'. -/
def writeAloneUptoCard : Claim7 := { stood := { row := writeAloneUptoRow, standIns := [], harness := (true, "78766b211a16289dc2a1cced62552392396576177f6b7c4d4e4b6cd9f1158168"), looks := true }, kinds := [], alts := [], laidByText := true, laidKinds := [.data], laidTests := true, laidLooks := .later }
def WriteAloneUptoCardSaid : Prop := Claim7.holds Tryz.pinned (.plain (OpenSpec.upto writeAloneSpec)) writeAloneUptoCard

/-- THE SECOND FORM's CARD OF 'tactuslaw23.WriteBlocks'. -/
def writeBlocksUptoCard : Claim7 := { stood := { row := writeBlocksUptoRow, standIns := [], harness := (true, "78766b211a16289dc2a1cced62552392396576177f6b7c4d4e4b6cd9f1158168"), looks := true }, kinds := [], alts := [], laidByText := true, laidKinds := [.data], laidTests := true, laidLooks := .later }
def WriteBlocksUptoCardSaid : Prop := Claim7.holds Tryz.pinned (.plain (OpenSpec.upto writeBlocksSpec)) writeBlocksUptoCard

/-- THE SECOND FORM's CARD OF 'tactuslaw24.WritingsAll'. -/
def writingsAllUptoCard : Claim7 := { stood := { row := writingsAllUptoRow, standIns := [], harness := (true, "78766b211a16289dc2a1cced62552392396576177f6b7c4d4e4b6cd9f1158168"), looks := true }, kinds := [], alts := [], laidByText := true, laidKinds := [.data], laidTests := true, laidLooks := .later }
def WritingsAllUptoCardSaid : Prop := Claim7.holds Tryz.pinned (.plain (OpenSpec.upto writingsAllSpec)) writingsAllUptoCard

/-- THE SECOND FORM's CARD OF 'tactuslaw24.WritingsUnder'. -/
def writingsUnderUptoCard : Claim7 := { stood := { row := writingsUnderUptoRow, standIns := [], harness := (true, "78766b211a16289dc2a1cced62552392396576177f6b7c4d4e4b6cd9f1158168"), looks := true }, kinds := [], alts := [], laidByText := true, laidKinds := [.data], laidTests := true, laidLooks := .later }
def WritingsUnderUptoCardSaid : Prop := Claim7.holds Tryz.pinned (.plain (OpenSpec.upto writingsUnderSpec)) writingsUnderUptoCard

/-- THE SECOND FORM's CARD OF 'tactuslaw24.WritingsKnown'. -/
def writingsKnownUptoCard : Claim7 := { stood := { row := writingsKnownUptoRow, standIns := [], harness := (true, "78766b211a16289dc2a1cced62552392396576177f6b7c4d4e4b6cd9f1158168"), looks := true }, kinds := [], alts := [], laidByText := true, laidKinds := [.data], laidTests := true, laidLooks := .later }
def WritingsKnownUptoCardSaid : Prop := Claim7.holds Tryz.pinned (.plain (OpenSpec.upto writingsKnownSpec)) writingsKnownUptoCard

/-- THE SECOND FORM's CARD OF 'tactuslaw24.WritingsHabits'. -/
def writingsHabitsUptoCard : Claim7 := { stood := { row := writingsHabitsUptoRow, standIns := [], harness := (true, "78766b211a16289dc2a1cced62552392396576177f6b7c4d4e4b6cd9f1158168"), looks := true }, kinds := [], alts := [], laidByText := true, laidKinds := [.data], laidTests := true, laidLooks := .later }
def WritingsHabitsUptoCardSaid : Prop := Claim7.holds Tryz.pinned (.plain (OpenSpec.upto writingsHabitsSpec)) writingsHabitsUptoCard

/-- THE SECOND FORM's CARD OF 'tactuslaw24.WritingsBest'. -/
def writingsBestUptoCard : Claim7 := { stood := { row := writingsBestUptoRow, standIns := [], harness := (true, "78766b211a16289dc2a1cced62552392396576177f6b7c4d4e4b6cd9f1158168"), looks := true }, kinds := [], alts := [], laidByText := true, laidKinds := [.data], laidTests := true, laidLooks := .later }
def WritingsBestUptoCardSaid : Prop := Claim7.holds Tryz.pinned (.plain (OpenSpec.upto writingsBestSpec)) writingsBestUptoCard

/-- THE SECOND FORM's CARD OF 'tactuslaw23.WriteParts'. -/
def writePartsUptoCard : Claim7 := { stood := { row := writePartsUptoRow, standIns := [], harness := (true, "78766b211a16289dc2a1cced62552392396576177f6b7c4d4e4b6cd9f1158168"), looks := true }, kinds := [], alts := [], laidByText := true, laidKinds := [.data], laidTests := true, laidLooks := .later }
def WritePartsUptoCardSaid : Prop := Claim7.holds Tryz.pinned (.plain (OpenSpec.upto writePartsSpec)) writePartsUptoCard

/-- THE SECOND FORM's CARD OF 'tactuslaw24.WritingsRead'. -/
def writingsReadUptoCard : Claim7 := { stood := { row := writingsReadUptoRow, standIns := [], harness := (true, "78766b211a16289dc2a1cced62552392396576177f6b7c4d4e4b6cd9f1158168"), looks := true }, kinds := [], alts := [], laidByText := true, laidKinds := [.data], laidTests := true, laidLooks := .later }
def WritingsReadUptoCardSaid : Prop := Claim7.holds Tryz.pinned (.plain (OpenSpec.upto writingsReadSpec)) writingsReadUptoCard

/-- THE SECOND FORM's CARD OF 'tactuslaw23.WriteBack'. -/
def writeBackUptoCard : Claim7 := { stood := { row := writeBackUptoRow, standIns := [], harness := (true, "78766b211a16289dc2a1cced62552392396576177f6b7c4d4e4b6cd9f1158168"), looks := true }, kinds := [], alts := [], laidByText := true, laidKinds := [.data, .data, .data], laidTests := true, laidLooks := .later }
def WriteBackUptoCardSaid : Prop := Claim7.holds Tryz.pinned (.plain (OpenSpec.upto writeBackSpec)) writeBackUptoCard
end Rows
end Go.Proofs.YtggdlojopkoegaaGreatDoor
