/-
  DERIVED. GIVEN WITH THE SEED: THE CARDS: each row of YtpapdhoblekoeaaGreatDoorRows.lean that lists a variable, with what it lists TIED to the program's text (the seventh form; the later family's looks); each row that meets fmt, with fmt's text TOLD by the authors' own Lean function (tested against real Go, not proved from fmt's source: count such statements apart). THE CARD IS WHAT COUNTS. Prove the row's statement (the work); the ties are given (YtpapdhoblekoeaaGreatDoorTie.lean); close each card by the builder's one call (the guide's Derived/Test/ToyasCard.lean, 'card_holds'). Laid BY PROGRAM, IN A SANDBOX (cutbox-door.mjs). By AI agents, Wed Nov 11 2026. No macro, syntax, notation, axiom, sorry.
-/
import Derived.Test.YtpapdhoblekoeaaGreatDoorRows
import GoSem.ClaimSeven
namespace Go.Proofs.YtpapdhoblekoeaaGreatDoor
namespace Rows

/-- THE TIED CARD OF 'tactustop.TopScore'. -/
def topScoreCard : Claim7 := { stood := { row := topScoreRow, standIns := [], harness := (true, "7338bf08b755edd5d5684781161c2ff90c9f3b8368a311e5904e7b039d9f8205"), looks := true }, kinds := [], alts := [], laidByText := true, laidKinds := [.data, .data, .data, .data, .data], laidTests := true, laidLooks := .later }
def TopScoreCardSaid : Prop := Claim7.holds Tryz.pinned (.plain (OpenSpec.ofChange topScoreSpec)) topScoreCard

/-- THE SECOND FORM's CARD OF 'tactustop.TopScore'. -/
def topScoreUptoCard : Claim7 := { stood := { row := topScoreUptoRow, standIns := [], harness := (true, "7338bf08b755edd5d5684781161c2ff90c9f3b8368a311e5904e7b039d9f8205"), looks := true }, kinds := [], alts := [], laidByText := true, laidKinds := [.data, .data, .data, .data, .data], laidTests := true, laidLooks := .later }
def TopScoreUptoCardSaid : Prop := Claim7.holds Tryz.pinned (.plain (OpenSpec.upto topScoreSpec)) topScoreUptoCard
end Rows
end Go.Proofs.YtpapdhoblekoeaaGreatDoor
