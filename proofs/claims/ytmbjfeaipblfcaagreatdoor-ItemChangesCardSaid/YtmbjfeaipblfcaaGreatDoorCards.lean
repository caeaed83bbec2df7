/-
  DERIVED. GIVEN WITH THE SEED: THE CARDS: each row of YtmbjfeaipblfcaaGreatDoorRows.lean that lists a variable, with what it lists TIED to the program's text (the seventh form; the later family's looks); each row that meets fmt, with fmt's text TOLD by the authors' own Lean function (tested against real Go, not proved from fmt's source: count such statements apart). THE CARD IS WHAT COUNTS. Prove the row's statement (the work); the ties are given (YtmbjfeaipblfcaaGreatDoorTie.lean); close each card by the builder's one call (the guide's Derived/Test/ToyasCard.lean, 'card_holds'). Laid BY PROGRAM, IN A SANDBOX (cutbox-door.mjs). By AI agents, Wed Nov 11 2026. No macro, syntax, notation, axiom, sorry.
-/
import Derived.Test.YtmbjfeaipblfcaaGreatDoorRows
import GoSem.ClaimSeven
namespace Go.Proofs.YtmbjfeaipblfcaaGreatDoor
namespace Rows

/-- THE TIED CARD OF 'tactuslaw13.ItemItems'. -/
def itemItemsCard : Claim7 := { stood := { row := itemItemsRow, standIns := [], harness := (true, "6200fa0d553c1f27c1ee785ad8cfa499f7883a41420f2c7fa07e94544b468ef6"), looks := true }, kinds := [], alts := [], laidByText := true, laidKinds := [.data], laidTests := true, laidLooks := .later }
def ItemItemsCardSaid : Prop := Claim7.holds Tryz.pinned (.plain (OpenSpec.ofChange itemItemsSpec)) itemItemsCard

/-- THE TIED CARD OF 'tactuslaw13.ItemCombos'. -/
def itemCombosCard : Claim7 := { stood := { row := itemCombosRow, standIns := [], harness := (true, "6200fa0d553c1f27c1ee785ad8cfa499f7883a41420f2c7fa07e94544b468ef6"), looks := true }, kinds := [], alts := [], laidByText := true, laidKinds := [.data], laidTests := true, laidLooks := .later }
def ItemCombosCardSaid : Prop := Claim7.holds Tryz.pinned (.plain (OpenSpec.ofChange itemCombosSpec)) itemCombosCard

/-- THE TIED CARD OF 'tactuslaw13.ItemFull'. -/
def itemFullCard : Claim7 := { stood := { row := itemFullRow, standIns := [], harness := (true, "6200fa0d553c1f27c1ee785ad8cfa499f7883a41420f2c7fa07e94544b468ef6"), looks := true }, kinds := [], alts := [], laidByText := true, laidKinds := [.data], laidTests := true, laidLooks := .later }
def ItemFullCardSaid : Prop := Claim7.holds Tryz.pinned (.plain (OpenSpec.ofChange itemFullSpec)) itemFullCard

/-- THE TIED CARD OF 'tactuslaw13.ItemOf'. -/
def itemOfCard : Claim7 := { stood := { row := itemOfRow, standIns := [], harness := (true, "6200fa0d553c1f27c1ee785ad8cfa499f7883a41420f2c7fa07e94544b468ef6"), looks := true }, kinds := [], alts := [], laidByText := true, laidKinds := [.data], laidTests := true, laidLooks := .later }
def ItemOfCardSaid : Prop := Claim7.holds Tryz.pinned (.plain (OpenSpec.ofChange itemOfSpec)) itemOfCard

/-- THE TIED CARD OF 'tactuslaw13.ItemChanges'. -/
def itemChangesCard : Claim7 := { stood := { row := itemChangesRow, standIns := [], harness := (true, "6200fa0d553c1f27c1ee785ad8cfa499f7883a41420f2c7fa07e94544b468ef6"), looks := true }, kinds := [], alts := [], laidByText := true, laidKinds := [.data], laidTests := true, laidLooks := .later }
def ItemChangesCardSaid : Prop := Claim7.holds Tryz.pinned (.plain (OpenSpec.ofChange itemChangesSpec)) itemChangesCard

/-- THE TIED CARD OF 'tactuslaw17.RuleChooses'. -/
def ruleChoosesCard : Claim7 := { stood := { row := ruleChoosesRow, standIns := [], harness := (true, "6200fa0d553c1f27c1ee785ad8cfa499f7883a41420f2c7fa07e94544b468ef6"), looks := true }, kinds := [], alts := [], laidByText := true, laidKinds := [.data], laidTests := true, laidLooks := .later }
def RuleChoosesCardSaid : Prop := Claim7.holds Tryz.pinned (.plain (OpenSpec.ofChange ruleChoosesSpec)) ruleChoosesCard

/-- THE TIED CARD OF 'tactuslaw17.RuleMade'. -/
def ruleMadeCard : Claim7 := { stood := { row := ruleMadeRow, standIns := [], harness := (true, "6200fa0d553c1f27c1ee785ad8cfa499f7883a41420f2c7fa07e94544b468ef6"), looks := true }, kinds := [], alts := [], laidByText := true, laidKinds := [.data], laidTests := true, laidLooks := .later }
def RuleMadeCardSaid : Prop := Claim7.holds Tryz.pinned (.plain (OpenSpec.ofChange ruleMadeSpec)) ruleMadeCard

/-- THE TIED CARD OF 'tactuslaw17.RuleKnown'. -/
def ruleKnownCard : Claim7 := { stood := { row := ruleKnownRow, standIns := [], harness := (true, "6200fa0d553c1f27c1ee785ad8cfa499f7883a41420f2c7fa07e94544b468ef6"), looks := true }, kinds := [], alts := [], laidByText := true, laidKinds := [.data], laidTests := true, laidLooks := .later }
def RuleKnownCardSaid : Prop := Claim7.holds Tryz.pinned (.plain (OpenSpec.ofChange ruleKnownSpec)) ruleKnownCard

/-- THE TIED CARD OF 'tactuslaw17.RuleAllowed'. -/
def ruleAllowedCard : Claim7 := { stood := { row := ruleAllowedRow, standIns := [], harness := (true, "6200fa0d553c1f27c1ee785ad8cfa499f7883a41420f2c7fa07e94544b468ef6"), looks := true }, kinds := [], alts := [], laidByText := true, laidKinds := [.data], laidTests := true, laidLooks := .later }
def RuleAllowedCardSaid : Prop := Claim7.holds Tryz.pinned (.plain (OpenSpec.ofChange ruleAllowedSpec)) ruleAllowedCard

/-- THE TIED CARD OF 'tactuslaw17.RuleSteady'. -/
def ruleSteadyCard : Claim7 := { stood := { row := ruleSteadyRow, standIns := [], harness := (true, "6200fa0d553c1f27c1ee785ad8cfa499f7883a41420f2c7fa07e94544b468ef6"), looks := true }, kinds := [], alts := [], laidByText := true, laidKinds := [.data], laidTests := true, laidLooks := .later }
def RuleSteadyCardSaid : Prop := Claim7.holds Tryz.pinned (.plain (OpenSpec.ofChange ruleSteadySpec)) ruleSteadyCard

/-- THE TIED CARD OF 'tactuslaw17.RuleReads'. -/
def ruleReadsCard : Claim7 := { stood := { row := ruleReadsRow, standIns := [], harness := (true, "6200fa0d553c1f27c1ee785ad8cfa499f7883a41420f2c7fa07e94544b468ef6"), looks := true }, kinds := [], alts := [], laidByText := true, laidKinds := [.data], laidTests := true, laidLooks := .later }
def RuleReadsCardSaid : Prop := Claim7.holds Tryz.pinned (.plain (OpenSpec.ofChange ruleReadsSpec)) ruleReadsCard

/-- THE TIED CARD OF 'tactuslaw17.RuleEven'. -/
def ruleEvenCard : Claim7 := { stood := { row := ruleEvenRow, standIns := [], harness := (true, "6200fa0d553c1f27c1ee785ad8cfa499f7883a41420f2c7fa07e94544b468ef6"), looks := true }, kinds := [], alts := [], laidByText := true, laidKinds := [.data], laidTests := true, laidLooks := .later }
def RuleEvenCardSaid : Prop := Claim7.holds Tryz.pinned (.plain (OpenSpec.ofChange ruleEvenSpec)) ruleEvenCard

/-- THE SECOND FORM's CARD OF 'tactuslaw13.ItemItems'. -/
def itemItemsUptoCard : Claim7 := { stood := { row := itemItemsUptoRow, standIns := [], harness := (true, "6200fa0d553c1f27c1ee785ad8cfa499f7883a41420f2c7fa07e94544b468ef6"), looks := true }, kinds := [], alts := [], laidByText := true, laidKinds := [.data], laidTests := true, laidLooks := .later }
def ItemItemsUptoCardSaid : Prop := Claim7.holds Tryz.pinned (.plain (OpenSpec.upto itemItemsSpec)) itemItemsUptoCard

/-- THE SECOND FORM's CARD OF 'tactuslaw13.ItemCombos'. -/
def itemCombosUptoCard : Claim7 := { stood := { row := itemCombosUptoRow, standIns := [], harness := (true, "6200fa0d553c1f27c1ee785ad8cfa499f7883a41420f2c7fa07e94544b468ef6"), looks := true }, kinds := [], alts := [], laidByText := true, laidKinds := [.data], laidTests := true, laidLooks := .later }
def ItemCombosUptoCardSaid : Prop := Claim7.holds Tryz.pinned (.plain (OpenSpec.upto itemCombosSpec)) itemCombosUptoCard

/-- THE SECOND FORM's CARD OF 'tactuslaw13.ItemFull'. -/
def itemFullUptoCard : Claim7 := { stood := { row := itemFullUptoRow, standIns := [], harness := (true, "6200fa0d553c1f27c1ee785ad8cfa499f7883a41420f2c7fa07e94544b468ef6"), looks := true }, kinds := [], alts := [], laidByText := true, laidKinds := [.data], laidTests := true, laidLooks := .later }
def ItemFullUptoCardSaid : Prop := Claim7.holds Tryz.pinned (.plain (OpenSpec.upto itemFullSpec)) itemFullUptoCard

/-- THE SECOND FORM's CARD OF 'tactuslaw13.ItemOf'. -/
def itemOfUptoCard : Claim7 := { stood := { row := itemOfUptoRow, standIns := [], harness := (true, "6200fa0d553c1f27c1ee785ad8cfa499f7883a41420f2c7fa07e94544b468ef6"), looks := true }, kinds := [], alts := [], laidByText := true, laidKinds := [.data], laidTests := true, laidLooks := .later }
def ItemOfUptoCardSaid : Prop := Claim7.holds Tryz.pinned (.plain (OpenSpec.upto itemOfSpec)) itemOfUptoCard

/-- THE SECOND FORM's CARD OF 'tactuslaw13.ItemChanges'. -/
def itemChangesUptoCard : Claim7 := { stood := { row := itemChangesUptoRow, standIns := [], harness := (true, "6200fa0d553c1f27c1ee785ad8cfa499f7883a41420f2c7fa07e94544b468ef6"), looks := true }, kinds := [], alts := [], laidByText := true, laidKinds := [.data], laidTests := true, laidLooks := .later }
def ItemChangesUptoCardSaid : Prop := Claim7.holds Tryz.pinned (.plain (OpenSpec.upto itemChangesSpec)) itemChangesUptoCard

/-- THE SECOND FORM's CARD OF 'tactuslaw17.RuleChooses'. -/
def ruleChoosesUptoCard : Claim7 := { stood := { row := ruleChoosesUptoRow, standIns := [], harness := (true, "6200fa0d553c1f27c1ee785ad8cfa499f7883a41420f2c7fa07e94544b468ef6"), looks := true }, kinds := [], alts := [], laidByText := true, laidKinds := [.data], laidTests := true, laidLooks := .later }
def RuleChoosesUptoCardSaid : Prop := Claim7.holds Tryz.pinned (.plain (OpenSpec.upto ruleChoosesSpec)) ruleChoosesUptoCard

/-- THE SECOND FORM's CARD OF 'tactuslaw17.RuleMade'. -/
def ruleMadeUptoCard : Claim7 := { stood := { row := ruleMadeUptoRow, standIns := [], harness := (true, "6200fa0d553c1f27c1ee785ad8cfa499f7883a41420f2c7fa07e94544b468ef6"), looks := true }, kinds := [], alts := [], laidByText := true, laidKinds := [.data], laidTests := true, laidLooks := .later }
def RuleMadeUptoCardSaid : Prop := Claim7.holds Tryz.pinned (.plain (OpenSpec.upto ruleMadeSpec)) ruleMadeUptoCard

/-- THE SECOND FORM's CARD OF 'tactuslaw17.RuleKnown'. -/
def ruleKnownUptoCard : Claim7 := { stood := { row := ruleKnownUptoRow, standIns := [], harness := (true, "6200fa0d553c1f27c1ee785ad8cfa499f7883a41420f2c7fa07e94544b468ef6"), looks := true }, kinds := [], alts := [], laidByText := true, laidKinds := [.data], laidTests := true, laidLooks := .later }
def RuleKnownUptoCardSaid : Prop := Claim7.holds Tryz.pinned (.plain (OpenSpec.upto ruleKnownSpec)) ruleKnownUptoCard

/-- THE SECOND FORM's CARD OF 'tactuslaw17.RuleAllowed'. -/
def ruleAllowedUptoCard : Claim7 := { stood := { row := ruleAllowedUptoRow, standIns := [], harness := (true, "6200fa0d553c1f27c1ee785ad8cfa499f7883a41420f2c7fa07e94544b468ef6"), looks := true }, kinds := [], alts := [], laidByText := true, laidKinds := [.data], laidTests := true, laidLooks := .later }
def RuleAllowedUptoCardSaid : Prop := Claim7.holds Tryz.pinned (.plain (OpenSpec.upto ruleAllowedSpec)) ruleAllowedUptoCard

/-- THE SECOND FORM's CARD OF 'tactuslaw17.RuleSteady'. -/
def ruleSteadyUptoCard : Claim7 := { stood := { row := ruleSteadyUptoRow, standIns := [], harness := (true, "6200fa0d553c1f27c1ee785ad8cfa499f7883a41420f2c7fa07e94544b468ef6"), looks := true }, kinds := [], alts := [], laidByText := true, laidKinds := [.data], laidTests := true, laidLooks := .later }
def RuleSteadyUptoCardSaid : Prop := Claim7.holds Tryz.pinned (.plain (OpenSpec.upto ruleSteadySpec)) ruleSteadyUptoCard

/-- THE SECOND FORM's CARD OF 'tactuslaw17.RuleReads'. -/
def ruleReadsUptoCard : Claim7 := { stood := { row := ruleReadsUptoRow, standIns := [], harness := (true, "6200fa0d553c1f27c1ee785ad8cfa499f7883a41420f2c7fa07e94544b468ef6"), looks := true }, kinds := [], alts := [], laidByText := true, laidKinds := [.data], laidTests := true, laidLooks := .later }
def RuleReadsUptoCardSaid : Prop := Claim7.holds Tryz.pinned (.plain (OpenSpec.upto ruleReadsSpec)) ruleReadsUptoCard

/-- THE SECOND FORM's CARD OF 'tactuslaw17.RuleEven'. -/
def ruleEvenUptoCard : Claim7 := { stood := { row := ruleEvenUptoRow, standIns := [], harness := (true, "6200fa0d553c1f27c1ee785ad8cfa499f7883a41420f2c7fa07e94544b468ef6"), looks := true }, kinds := [], alts := [], laidByText := true, laidKinds := [.data], laidTests := true, laidLooks := .later }
def RuleEvenUptoCardSaid : Prop := Claim7.holds Tryz.pinned (.plain (OpenSpec.upto ruleEvenSpec)) ruleEvenUptoCard
end Rows
end Go.Proofs.YtmbjfeaipblfcaaGreatDoor
