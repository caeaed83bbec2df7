/-
  DERIVED. GIVEN WITH THE SEED: THE CARDS: each row of YtbopkhoalndflaaGreatDoorRows.lean that lists a variable, with what it lists TIED to the program's text (the seventh form; the later family's looks); each row that meets fmt, with fmt's text TOLD by the authors' own Lean function (tested against real Go, not proved from fmt's source: count such statements apart). THE CARD IS WHAT COUNTS. Prove the row's statement (the work); the ties are given (YtbopkhoalndflaaGreatDoorTie.lean); close each card by the builder's one call (the guide's Derived/Test/ToyasCard.lean, 'card_holds'). Laid BY PROGRAM, IN A SANDBOX (cutbox-door.mjs). By AI agents, Wed Nov 11 2026. No macro, syntax, notation, axiom, sorry.
-/
import Derived.Test.YtbopkhoalndflaaGreatDoorRows
import GoSem.ClaimSeven
namespace Go.Proofs.YtbopkhoalndflaaGreatDoor
namespace Rows

/-- THE TIED CARD OF 'tactuslaw24.WritingsMinimal'. -/
def writingsMinimalCard : Claim7 := { stood := { row := writingsMinimalRow, standIns := [], harness := (true, "ef86195e369bc92f4c01c393abed01d9acc7e0aa71aba6a74df7e50593ae2830"), looks := true }, kinds := [], alts := [], laidByText := true, laidKinds := [.data], laidTests := true, laidLooks := .later }
def WritingsMinimalCardSaid : Prop := Claim7.holds Tryz.pinned (.plain (OpenSpec.ofChange writingsMinimalSpec)) writingsMinimalCard

/-- THE TIED CARD OF 'tactuslaw23.WriteIs'. -/
def writeIsCard : Claim7 := { stood := { row := writeIsRow, standIns := [], harness := (true, "ef86195e369bc92f4c01c393abed01d9acc7e0aa71aba6a74df7e50593ae2830"), looks := true }, kinds := [], alts := [], laidByText := true, laidKinds := [.data], laidTests := true, laidLooks := .later }
def WriteIsCardSaid : Prop := Claim7.holds Tryz.pinned (.plain (OpenSpec.ofChange writeIsSpec)) writeIsCard

/-- THE TIED CARD OF 'tactuslaw23.WriteWrites'. -/
def writeWritesCard : Claim7 := { stood := { row := writeWritesRow, standIns := [], harness := (true, "ef86195e369bc92f4c01c393abed01d9acc7e0aa71aba6a74df7e50593ae2830"), looks := true }, kinds := [], alts := [], laidByText := true, laidKinds := [.data], laidTests := true, laidLooks := .later }
def WriteWritesCardSaid : Prop := Claim7.holds Tryz.pinned (.plain (OpenSpec.ofChange writeWritesSpec)) writeWritesCard

/-- THE TIED CARD OF 'tactuslaw23.WriteMore'. -/
def writeMoreCard : Claim7 := { stood := { row := writeMoreRow, standIns := [], harness := (true, "ef86195e369bc92f4c01c393abed01d9acc7e0aa71aba6a74df7e50593ae2830"), looks := true }, kinds := [], alts := [], laidByText := true, laidKinds := [.data], laidTests := true, laidLooks := .later }
def WriteMoreCardSaid : Prop := Claim7.holds Tryz.pinned (.plain (OpenSpec.ofChange writeMoreSpec)) writeMoreCard

/-- THE TIED CARD OF 'tactuslaw24.WritingsAll'. -/
def writingsAllCard : Claim7 := { stood := { row := writingsAllRow, standIns := [], harness := (true, "ef86195e369bc92f4c01c393abed01d9acc7e0aa71aba6a74df7e50593ae2830"), looks := true }, kinds := [], alts := [], laidByText := true, laidKinds := [.data], laidTests := true, laidLooks := .later }
def WritingsAllCardSaid : Prop := Claim7.holds Tryz.pinned (.plain (OpenSpec.ofChange writingsAllSpec)) writingsAllCard

/-- THE TIED CARD OF 'tactuslaw24.WritingsUnder'. -/
def writingsUnderCard : Claim7 := { stood := { row := writingsUnderRow, standIns := [], harness := (true, "ef86195e369bc92f4c01c393abed01d9acc7e0aa71aba6a74df7e50593ae2830"), looks := true }, kinds := [], alts := [], laidByText := true, laidKinds := [.data], laidTests := true, laidLooks := .later }
def WritingsUnderCardSaid : Prop := Claim7.holds Tryz.pinned (.plain (OpenSpec.ofChange writingsUnderSpec)) writingsUnderCard

/-- THE TIED CARD OF 'tactuslaw23.WriteParts'. -/
def writePartsCard : Claim7 := { stood := { row := writePartsRow, standIns := [], harness := (true, "ef86195e369bc92f4c01c393abed01d9acc7e0aa71aba6a74df7e50593ae2830"), looks := true }, kinds := [], alts := [], laidByText := true, laidKinds := [.data], laidTests := true, laidLooks := .later }
def WritePartsCardSaid : Prop := Claim7.holds Tryz.pinned (.plain (OpenSpec.ofChange writePartsSpec)) writePartsCard

/-- THE TIED CARD OF 'tactuslaw23.WriteBack'. -/
def writeBackCard : Claim7 := { stood := { row := writeBackRow, standIns := [], harness := (true, "ef86195e369bc92f4c01c393abed01d9acc7e0aa71aba6a74df7e50593ae2830"), looks := true }, kinds := [], alts := [], laidByText := true, laidKinds := [.data, .data, .data], laidTests := true, laidLooks := .later }
def WriteBackCardSaid : Prop := Claim7.holds Tryz.pinned (.plain (OpenSpec.ofChange writeBackSpec)) writeBackCard

/-- THE SECOND FORM's CARD OF 'tactuslaw24.WritingsMinimal'. -/
def writingsMinimalUptoCard : Claim7 := { stood := { row := writingsMinimalUptoRow, standIns := [], harness := (true, "ef86195e369bc92f4c01c393abed01d9acc7e0aa71aba6a74df7e50593ae2830"), looks := true }, kinds := [], alts := [], laidByText := true, laidKinds := [.data], laidTests := true, laidLooks := .later }
def WritingsMinimalUptoCardSaid : Prop := Claim7.holds Tryz.pinned (.plain (OpenSpec.upto writingsMinimalSpec)) writingsMinimalUptoCard

/-- THE SECOND FORM's CARD OF 'tactuslaw23.WriteIs'. -/
def writeIsUptoCard : Claim7 := { stood := { row := writeIsUptoRow, standIns := [], harness := (true, "ef86195e369bc92f4c01c393abed01d9acc7e0aa71aba6a74df7e50593ae2830"), looks := true }, kinds := [], alts := [], laidByText := true, laidKinds := [.data], laidTests := true, laidLooks := .later }
def WriteIsUptoCardSaid : Prop := Claim7.holds Tryz.pinned (.plain (OpenSpec.upto writeIsSpec)) writeIsUptoCard

/-- THE SECOND FORM's CARD OF 'tactuslaw23.WriteWrites'. -/
def writeWritesUptoCard : Claim7 := { stood := { row := writeWritesUptoRow, standIns := [], harness := (true, "ef86195e369bc92f4c01c393abed01d9acc7e0aa71aba6a74df7e50593ae2830"), looks := true }, kinds := [], alts := [], laidByText := true, laidKinds := [.data], laidTests := true, laidLooks := .later }
def WriteWritesUptoCardSaid : Prop := Claim7.holds Tryz.pinned (.plain (OpenSpec.upto writeWritesSpec)) writeWritesUptoCard

/-- THE SECOND FORM's CARD OF 'tactuslaw23.WriteMore'. -/
def writeMoreUptoCard : Claim7 := { stood := { row := writeMoreUptoRow, standIns := [], harness := (true, "ef86195e369bc92f4c01c393abed01d9acc7e0aa71aba6a74df7e50593ae2830"), looks := true }, kinds := [], alts := [], laidByText := true, laidKinds := [.data], laidTests := true, laidLooks := .later }
def WriteMoreUptoCardSaid : Prop := Claim7.holds Tryz.pinned (.plain (OpenSpec.upto writeMoreSpec)) writeMoreUptoCard

/-- THE SECOND FORM's CARD OF 'tactuslaw24.WritingsAll'. -/
def writingsAllUptoCard : Claim7 := { stood := { row := writingsAllUptoRow, standIns := [], harness := (true, "ef86195e369bc92f4c01c393abed01d9acc7e0aa71aba6a74df7e50593ae2830"), looks := true }, kinds := [], alts := [], laidByText := true, laidKinds := [.data], laidTests := true, laidLooks := .later }
def WritingsAllUptoCardSaid : Prop := Claim7.holds Tryz.pinned (.plain (OpenSpec.upto writingsAllSpec)) writingsAllUptoCard

/-- THE SECOND FORM's CARD OF 'tactuslaw24.WritingsUnder'. -/
def writingsUnderUptoCard : Claim7 := { stood := { row := writingsUnderUptoRow, standIns := [], harness := (true, "ef86195e369bc92f4c01c393abed01d9acc7e0aa71aba6a74df7e50593ae2830"), looks := true }, kinds := [], alts := [], laidByText := true, laidKinds := [.data], laidTests := true, laidLooks := .later }
def WritingsUnderUptoCardSaid : Prop := Claim7.holds Tryz.pinned (.plain (OpenSpec.upto writingsUnderSpec)) writingsUnderUptoCard

/-- THE SECOND FORM's CARD OF 'tactuslaw23.WriteParts'. -/
def writePartsUptoCard : Claim7 := { stood := { row := writePartsUptoRow, standIns := [], harness := (true, "ef86195e369bc92f4c01c393abed01d9acc7e0aa71aba6a74df7e50593ae2830"), looks := true }, kinds := [], alts := [], laidByText := true, laidKinds := [.data], laidTests := true, laidLooks := .later }
def WritePartsUptoCardSaid : Prop := Claim7.holds Tryz.pinned (.plain (OpenSpec.upto writePartsSpec)) writePartsUptoCard

/-- THE SECOND FORM's CARD OF 'tactuslaw23.WriteBack'. -/
def writeBackUptoCard : Claim7 := { stood := { row := writeBackUptoRow, standIns := [], harness := (true, "ef86195e369bc92f4c01c393abed01d9acc7e0aa71aba6a74df7e50593ae2830"), looks := true }, kinds := [], alts := [], laidByText := true, laidKinds := [.data, .data, .data], laidTests := true, laidLooks := .later }
def WriteBackUptoCardSaid : Prop := Claim7.holds Tryz.pinned (.plain (OpenSpec.upto writeBackSpec)) writeBackUptoCard
end Rows
end Go.Proofs.YtbopkhoalndflaaGreatDoor
