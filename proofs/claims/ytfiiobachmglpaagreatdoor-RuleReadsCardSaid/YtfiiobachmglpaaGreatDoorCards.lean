/-
  DERIVED. GIVEN WITH THE SEED: THE CARDS: each row of YtfiiobachmglpaaGreatDoorRows.lean that lists a variable, with what it lists TIED to the program's text (the seventh form; the later family's looks); each row that meets fmt, with fmt's text TOLD by the authors' own Lean function (tested against real Go, not proved from fmt's source: count such statements apart). THE CARD IS WHAT COUNTS. Prove the row's statement (the work); the ties are given (YtfiiobachmglpaaGreatDoorTie.lean); close each card by the builder's one call (the guide's Derived/Test/ToyasCard.lean, 'card_holds'). Laid BY PROGRAM, IN A SANDBOX (cutbox-door.mjs). By AI agents, Wed Nov 11 2026. No macro, syntax, notation, axiom, sorry.
-/
import Derived.Test.YtfiiobachmglpaaGreatDoorRows
import GoSem.ClaimSeven
namespace Go.Proofs.YtfiiobachmglpaaGreatDoor
namespace Rows

/-- THE TIED CARD OF 'tactuslaw17.RuleChooses'. -/
def ruleChoosesCard : Claim7 := { stood := { row := ruleChoosesRow, standIns := [], harness := (true, "3a8cbe686c29319260a5f4f50b9860b2a84aa017aed07e67d45dbd300512119c"), looks := true }, kinds := [], alts := [], laidByText := true, laidKinds := [.data], laidTests := true, laidLooks := .later }
def RuleChoosesCardSaid : Prop := Claim7.holds Tryz.pinned (.plain (OpenSpec.ofChange ruleChoosesSpec)) ruleChoosesCard

/-- THE TIED CARD OF 'tactuslaw17.RuleMade'. -/
def ruleMadeCard : Claim7 := { stood := { row := ruleMadeRow, standIns := [], harness := (true, "3a8cbe686c29319260a5f4f50b9860b2a84aa017aed07e67d45dbd300512119c"), looks := true }, kinds := [], alts := [], laidByText := true, laidKinds := [.data], laidTests := true, laidLooks := .later }
def RuleMadeCardSaid : Prop := Claim7.holds Tryz.pinned (.plain (OpenSpec.ofChange ruleMadeSpec)) ruleMadeCard

/-- THE TIED CARD OF 'tactuslaw17.RuleKnown'. -/
def ruleKnownCard : Claim7 := { stood := { row := ruleKnownRow, standIns := [], harness := (true, "3a8cbe686c29319260a5f4f50b9860b2a84aa017aed07e67d45dbd300512119c"), looks := true }, kinds := [], alts := [], laidByText := true, laidKinds := [.data], laidTests := true, laidLooks := .later }
def RuleKnownCardSaid : Prop := Claim7.holds Tryz.pinned (.plain (OpenSpec.ofChange ruleKnownSpec)) ruleKnownCard

/-- THE TIED CARD OF 'tactuslaw17.RuleAllowed'. -/
def ruleAllowedCard : Claim7 := { stood := { row := ruleAllowedRow, standIns := [], harness := (true, "3a8cbe686c29319260a5f4f50b9860b2a84aa017aed07e67d45dbd300512119c"), looks := true }, kinds := [], alts := [], laidByText := true, laidKinds := [.data], laidTests := true, laidLooks := .later }
def RuleAllowedCardSaid : Prop := Claim7.holds Tryz.pinned (.plain (OpenSpec.ofChange ruleAllowedSpec)) ruleAllowedCard

/-- THE TIED CARD OF 'tactuslaw17.RuleSteady'. -/
def ruleSteadyCard : Claim7 := { stood := { row := ruleSteadyRow, standIns := [], harness := (true, "3a8cbe686c29319260a5f4f50b9860b2a84aa017aed07e67d45dbd300512119c"), looks := true }, kinds := [], alts := [], laidByText := true, laidKinds := [.data], laidTests := true, laidLooks := .later }
def RuleSteadyCardSaid : Prop := Claim7.holds Tryz.pinned (.plain (OpenSpec.ofChange ruleSteadySpec)) ruleSteadyCard

/-- THE TIED CARD OF 'tactuslaw17.RuleReads'. -/
def ruleReadsCard : Claim7 := { stood := { row := ruleReadsRow, standIns := [], harness := (true, "3a8cbe686c29319260a5f4f50b9860b2a84aa017aed07e67d45dbd300512119c"), looks := true }, kinds := [], alts := [], laidByText := true, laidKinds := [.data], laidTests := true, laidLooks := .later }
def RuleReadsCardSaid : Prop := Claim7.holds Tryz.pinned (.plain (OpenSpec.ofChange ruleReadsSpec)) ruleReadsCard

/-- THE TIED CARD OF 'tactuslaw17.RuleEven'. -/
def ruleEvenCard : Claim7 := { stood := { row := ruleEvenRow, standIns := [], harness := (true, "3a8cbe686c29319260a5f4f50b9860b2a84aa017aed07e67d45dbd300512119c"), looks := true }, kinds := [], alts := [], laidByText := true, laidKinds := [.data], laidTests := true, laidLooks := .later }
def RuleEvenCardSaid : Prop := Claim7.holds Tryz.pinned (.plain (OpenSpec.ofChange ruleEvenSpec)) ruleEvenCard

/-- THE TIED CARD OF 'tactuslaw18.ChoicesFields'. -/
def choicesFieldsCard : Claim7 := { stood := { row := choicesFieldsRow, standIns := [], harness := (true, "3a8cbe686c29319260a5f4f50b9860b2a84aa017aed07e67d45dbd300512119c"), looks := true }, kinds := [], alts := [], laidByText := true, laidKinds := [.data], laidTests := true, laidLooks := .later }
def ChoicesFieldsCardSaid : Prop := Claim7.holds Tryz.pinned (.plain (OpenSpec.ofChange choicesFieldsSpec)) choicesFieldsCard

/-- THE TIED CARD OF 'tactuslaw18.ChoicesSingle'. -/
def choicesSingleCard : Claim7 := { stood := { row := choicesSingleRow, standIns := [], harness := (true, "3a8cbe686c29319260a5f4f50b9860b2a84aa017aed07e67d45dbd300512119c"), looks := true }, kinds := [], alts := [], laidByText := true, laidKinds := [.data], laidTests := true, laidLooks := .later }
def ChoicesSingleCardSaid : Prop := Claim7.holds Tryz.pinned (.plain (OpenSpec.ofChange choicesSingleSpec)) choicesSingleCard

/-- THE TIED CARD OF 'tactuslaw22.SpellReads'. -/
def spellReadsCard : Claim7 := { stood := { row := spellReadsRow, standIns := [], harness := (true, "3a8cbe686c29319260a5f4f50b9860b2a84aa017aed07e67d45dbd300512119c"), looks := true }, kinds := [], alts := [], laidByText := true, laidKinds := [.data], laidTests := true, laidLooks := .later }
def SpellReadsCardSaid : Prop := Claim7.holds Tryz.pinned (.plain (OpenSpec.ofChange spellReadsSpec)) spellReadsCard

/-- THE TIED CARD OF 'tactuslaw18.ChoicesEach'. -/
def choicesEachCard : Claim7 := { stood := { row := choicesEachRow, standIns := [], harness := (true, "3a8cbe686c29319260a5f4f50b9860b2a84aa017aed07e67d45dbd300512119c"), looks := true }, kinds := [], alts := [], laidByText := true, laidKinds := [.data], laidTests := true, laidLooks := .later }
def ChoicesEachCardSaid : Prop := Claim7.holds Tryz.pinned (.plain (OpenSpec.ofChange choicesEachSpec)) choicesEachCard

/-- THE TIED CARD OF 'tactuslaw18.ChoicesEnds'. -/
def choicesEndsCard : Claim7 := { stood := { row := choicesEndsRow, standIns := [], harness := (true, "3a8cbe686c29319260a5f4f50b9860b2a84aa017aed07e67d45dbd300512119c"), looks := true }, kinds := [], alts := [], laidByText := true, laidKinds := [.data], laidTests := true, laidLooks := .later }
def ChoicesEndsCardSaid : Prop := Claim7.holds Tryz.pinned (.plain (OpenSpec.ofChange choicesEndsSpec)) choicesEndsCard

/-- THE TIED CARD OF 'tactuslaw18.ChoicesKnown'. -/
def choicesKnownCard : Claim7 := { stood := { row := choicesKnownRow, standIns := [], harness := (true, "3a8cbe686c29319260a5f4f50b9860b2a84aa017aed07e67d45dbd300512119c"), looks := true }, kinds := [], alts := [], laidByText := true, laidKinds := [.data], laidTests := true, laidLooks := .later }
def ChoicesKnownCardSaid : Prop := Claim7.holds Tryz.pinned (.plain (OpenSpec.ofChange choicesKnownSpec)) choicesKnownCard

/-- THE SECOND FORM's CARD OF 'tactuslaw17.RuleChooses'. -/
def ruleChoosesUptoCard : Claim7 := { stood := { row := ruleChoosesUptoRow, standIns := [], harness := (true, "3a8cbe686c29319260a5f4f50b9860b2a84aa017aed07e67d45dbd300512119c"), looks := true }, kinds := [], alts := [], laidByText := true, laidKinds := [.data], laidTests := true, laidLooks := .later }
def RuleChoosesUptoCardSaid : Prop := Claim7.holds Tryz.pinned (.plain (OpenSpec.upto ruleChoosesSpec)) ruleChoosesUptoCard

/-- THE SECOND FORM's CARD OF 'tactuslaw17.RuleMade'. -/
def ruleMadeUptoCard : Claim7 := { stood := { row := ruleMadeUptoRow, standIns := [], harness := (true, "3a8cbe686c29319260a5f4f50b9860b2a84aa017aed07e67d45dbd300512119c"), looks := true }, kinds := [], alts := [], laidByText := true, laidKinds := [.data], laidTests := true, laidLooks := .later }
def RuleMadeUptoCardSaid : Prop := Claim7.holds Tryz.pinned (.plain (OpenSpec.upto ruleMadeSpec)) ruleMadeUptoCard

/-- THE SECOND FORM's CARD OF 'tactuslaw17.RuleKnown'. -/
def ruleKnownUptoCard : Claim7 := { stood := { row := ruleKnownUptoRow, standIns := [], harness := (true, "3a8cbe686c29319260a5f4f50b9860b2a84aa017aed07e67d45dbd300512119c"), looks := true }, kinds := [], alts := [], laidByText := true, laidKinds := [.data], laidTests := true, laidLooks := .later }
def RuleKnownUptoCardSaid : Prop := Claim7.holds Tryz.pinned (.plain (OpenSpec.upto ruleKnownSpec)) ruleKnownUptoCard

/-- THE SECOND FORM's CARD OF 'tactuslaw17.RuleAllowed'. -/
def ruleAllowedUptoCard : Claim7 := { stood := { row := ruleAllowedUptoRow, standIns := [], harness := (true, "3a8cbe686c29319260a5f4f50b9860b2a84aa017aed07e67d45dbd300512119c"), looks := true }, kinds := [], alts := [], laidByText := true, laidKinds := [.data], laidTests := true, laidLooks := .later }
def RuleAllowedUptoCardSaid : Prop := Claim7.holds Tryz.pinned (.plain (OpenSpec.upto ruleAllowedSpec)) ruleAllowedUptoCard

/-- THE SECOND FORM's CARD OF 'tactuslaw17.RuleSteady'. -/
def ruleSteadyUptoCard : Claim7 := { stood := { row := ruleSteadyUptoRow, standIns := [], harness := (true, "3a8cbe686c29319260a5f4f50b9860b2a84aa017aed07e67d45dbd300512119c"), looks := true }, kinds := [], alts := [], laidByText := true, laidKinds := [.data], laidTests := true, laidLooks := .later }
def RuleSteadyUptoCardSaid : Prop := Claim7.holds Tryz.pinned (.plain (OpenSpec.upto ruleSteadySpec)) ruleSteadyUptoCard

/-- THE SECOND FORM's CARD OF 'tactuslaw17.RuleReads'. -/
def ruleReadsUptoCard : Claim7 := { stood := { row := ruleReadsUptoRow, standIns := [], harness := (true, "3a8cbe686c29319260a5f4f50b9860b2a84aa017aed07e67d45dbd300512119c"), looks := true }, kinds := [], alts := [], laidByText := true, laidKinds := [.data], laidTests := true, laidLooks := .later }
def RuleReadsUptoCardSaid : Prop := Claim7.holds Tryz.pinned (.plain (OpenSpec.upto ruleReadsSpec)) ruleReadsUptoCard

/-- THE SECOND FORM's CARD OF 'tactuslaw17.RuleEven'. -/
def ruleEvenUptoCard : Claim7 := { stood := { row := ruleEvenUptoRow, standIns := [], harness := (true, "3a8cbe686c29319260a5f4f50b9860b2a84aa017aed07e67d45dbd300512119c"), looks := true }, kinds := [], alts := [], laidByText := true, laidKinds := [.data], laidTests := true, laidLooks := .later }
def RuleEvenUptoCardSaid : Prop := Claim7.holds Tryz.pinned (.plain (OpenSpec.upto ruleEvenSpec)) ruleEvenUptoCard

/-- THE SECOND FORM's CARD OF 'tactuslaw18.ChoicesFields'. -/
def choicesFieldsUptoCard : Claim7 := { stood := { row := choicesFieldsUptoRow, standIns := [], harness := (true, "3a8cbe686c29319260a5f4f50b9860b2a84aa017aed07e67d45dbd300512119c"), looks := true }, kinds := [], alts := [], laidByText := true, laidKinds := [.data], laidTests := true, laidLooks := .later }
def ChoicesFieldsUptoCardSaid : Prop := Claim7.holds Tryz.pinned (.plain (OpenSpec.upto choicesFieldsSpec)) choicesFieldsUptoCard

/-- THE SECOND FORM's CARD OF 'tactuslaw18.ChoicesSingle'. -/
def choicesSingleUptoCard : Claim7 := { stood := { row := choicesSingleUptoRow, standIns := [], harness := (true, "3a8cbe686c29319260a5f4f50b9860b2a84aa017aed07e67d45dbd300512119c"), looks := true }, kinds := [], alts := [], laidByText := true, laidKinds := [.data], laidTests := true, laidLooks := .later }
def ChoicesSingleUptoCardSaid : Prop := Claim7.holds Tryz.pinned (.plain (OpenSpec.upto choicesSingleSpec)) choicesSingleUptoCard

/-- THE SECOND FORM's CARD OF 'tactuslaw22.SpellReads'. -/
def spellReadsUptoCard : Claim7 := { stood := { row := spellReadsUptoRow, standIns := [], harness := (true, "3a8cbe686c29319260a5f4f50b9860b2a84aa017aed07e67d45dbd300512119c"), looks := true }, kinds := [], alts := [], laidByText := true, laidKinds := [.data], laidTests := true, laidLooks := .later }
def SpellReadsUptoCardSaid : Prop := Claim7.holds Tryz.pinned (.plain (OpenSpec.upto spellReadsSpec)) spellReadsUptoCard

/-- THE SECOND FORM's CARD OF 'tactuslaw18.ChoicesEach'. -/
def choicesEachUptoCard : Claim7 := { stood := { row := choicesEachUptoRow, standIns := [], harness := (true, "3a8cbe686c29319260a5f4f50b9860b2a84aa017aed07e67d45dbd300512119c"), looks := true }, kinds := [], alts := [], laidByText := true, laidKinds := [.data], laidTests := true, laidLooks := .later }
def ChoicesEachUptoCardSaid : Prop := Claim7.holds Tryz.pinned (.plain (OpenSpec.upto choicesEachSpec)) choicesEachUptoCard

/-- THE SECOND FORM's CARD OF 'tactuslaw18.ChoicesEnds'. -/
def choicesEndsUptoCard : Claim7 := { stood := { row := choicesEndsUptoRow, standIns := [], harness := (true, "3a8cbe686c29319260a5f4f50b9860b2a84aa017aed07e67d45dbd300512119c"), looks := true }, kinds := [], alts := [], laidByText := true, laidKinds := [.data], laidTests := true, laidLooks := .later }
def ChoicesEndsUptoCardSaid : Prop := Claim7.holds Tryz.pinned (.plain (OpenSpec.upto choicesEndsSpec)) choicesEndsUptoCard

/-- THE SECOND FORM's CARD OF 'tactuslaw18.ChoicesKnown'. -/
def choicesKnownUptoCard : Claim7 := { stood := { row := choicesKnownUptoRow, standIns := [], harness := (true, "3a8cbe686c29319260a5f4f50b9860b2a84aa017aed07e67d45dbd300512119c"), looks := true }, kinds := [], alts := [], laidByText := true, laidKinds := [.data], laidTests := true, laidLooks := .later }
def ChoicesKnownUptoCardSaid : Prop := Claim7.holds Tryz.pinned (.plain (OpenSpec.upto choicesKnownSpec)) choicesKnownUptoCard
end Rows
end Go.Proofs.YtfiiobachmglpaaGreatDoor
