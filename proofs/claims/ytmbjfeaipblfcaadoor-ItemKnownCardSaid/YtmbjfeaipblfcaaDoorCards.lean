/-
  DERIVED. GIVEN WITH THE SEED: THE CARDS: each row of YtmbjfeaipblfcaaDoorRows.lean that lists a variable, with what it lists TIED to the program's text (the seventh form; the later family's looks); each row that meets fmt, with fmt's text TOLD by the authors' own Lean function (tested against real Go, not proved from fmt's source: count such statements apart). THE CARD IS WHAT COUNTS. Prove the row's statement (the work); the ties are given (YtmbjfeaipblfcaaDoorTie.lean); close each card by the builder's one call (the guide's Derived/Test/ToyasCard.lean, 'card_holds'). Laid BY PROGRAM, IN A SANDBOX (cutbox-door.mjs). By AI agents, Wed Nov 11 2026. No macro, syntax, notation, axiom, sorry.
-/
import Derived.Test.YtmbjfeaipblfcaaDoorRows
import GoSem.ClaimSeven
namespace Go.Proofs.YtmbjfeaipblfcaaDoor
namespace Rows

/-- THE TIED CARD OF 'tactuslaw13.ItemTotals'. -/
def itemTotalsCard : Claim7 := { stood := { row := itemTotalsRow, standIns := [], harness := (true, "30bb43abb3fb5abb142a38c7799a067fc1c84c4a17e092128d4c4651ac722cb1"), looks := false }, kinds := [], alts := [], laidByText := true, laidKinds := [.data], laidTests := true, laidLooks := .later }
def ItemTotalsCardSaid : Prop := Claim7.holds Tryd.pinned (.plain (OpenSpec.ofChange itemTotalsSpec)) itemTotalsCard

/-- THE TIED CARD OF 'tactuslaw13.ItemKnown'. -/
def itemKnownCard : Claim7 := { stood := { row := itemKnownRow, standIns := [], harness := (true, "30bb43abb3fb5abb142a38c7799a067fc1c84c4a17e092128d4c4651ac722cb1"), looks := false }, kinds := [], alts := [], laidByText := true, laidKinds := [.data], laidTests := true, laidLooks := .later }
def ItemKnownCardSaid : Prop := Claim7.holds Tryd.pinned (.plain (OpenSpec.ofChange itemKnownSpec)) itemKnownCard

/-- THE SECOND FORM's CARD OF 'tactuslaw13.ItemTotals'. -/
def itemTotalsUptoCard : Claim7 := { stood := { row := itemTotalsUptoRow, standIns := [], harness := (true, "30bb43abb3fb5abb142a38c7799a067fc1c84c4a17e092128d4c4651ac722cb1"), looks := false }, kinds := [], alts := [], laidByText := true, laidKinds := [.data], laidTests := true, laidLooks := .later }
def ItemTotalsUptoCardSaid : Prop := Claim7.holds Tryd.pinned (.plain (OpenSpec.upto itemTotalsSpec)) itemTotalsUptoCard

/-- THE SECOND FORM's CARD OF 'tactuslaw13.ItemKnown'. -/
def itemKnownUptoCard : Claim7 := { stood := { row := itemKnownUptoRow, standIns := [], harness := (true, "30bb43abb3fb5abb142a38c7799a067fc1c84c4a17e092128d4c4651ac722cb1"), looks := false }, kinds := [], alts := [], laidByText := true, laidKinds := [.data], laidTests := true, laidLooks := .later }
def ItemKnownUptoCardSaid : Prop := Claim7.holds Tryd.pinned (.plain (OpenSpec.upto itemKnownSpec)) itemKnownUptoCard
end Rows
end Go.Proofs.YtmbjfeaipblfcaaDoor
