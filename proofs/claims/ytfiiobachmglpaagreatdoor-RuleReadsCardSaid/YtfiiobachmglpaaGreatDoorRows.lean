/-
  NARROWER THAN 'FOR EVERY INPUT', by the rows' own cells (each row's printed sentence says how): RuleChooses: laid · RuleMade: laid · RuleKnown: laid · RuleAllowed: laid · RuleSteady: laid · RuleReads: laid · RuleEven: laid · ChoicesFields: laid · ChoicesSingle: laid · SpellReads: laid · ChoicesEach: laid · ChoicesEnds: laid · ChoicesKnown: laid.
  DERIVED. THE GIVEN ROWS OF THIS SEAT. 13 by the template 'for every input the law returns true; each argument reads behind the call as it read before'; 0 by the template 'total and deterministic' (their statements: YtfiiobachmglpaaGreatDoorTotals.lean).
  GIVEN WITH THE SEED: the statements are not yours to turn. If you find one false, say at which input.
  Laid BY PROGRAM, IN A SANDBOX (cutbox-rows.mjs): the forced cells as the released guide's own fill.sh prints them over the translation b723458623b9a933… (all of the seat's roots in one cut). By AI agents, Wed Nov 11 2026. No macro, syntax, notation, axiom, sorry.
-/
import Derived.Test.YtfiiobachmglpaaGreatDoorChecked
import GoSem.Claim
import GoSem.ClaimJoined
import GoSem.ClaimMapViews
import Derived.JoinedTies
import Derived.KernelRfl
namespace Go.Proofs.YtfiiobachmglpaaGreatDoor
/- THE CELL 'sum', in the pinned program and in every row, IS THE sha256 OF THE DUMP (.gsa) THAT YtfiiobachmglpaaGreatDoorProg.lean LOADS. Nothing in Lean hashes anything: it is a label: what it is worth is what the hold of that sum in a sandbox is worth. -/
noncomputable def Tryz.pinned : Pinned := { name := "ytfiiobachmglpaagreatdoor", sum := "b723458623b9a9335b178d11e919fa2773ad172cf5961efd49a41ae5c5b48282", checked := Tryz.checked }
namespace Rows
def none {H : Type} : Left H := { results := [], args := [] }

/- WHAT THE LISTED PACKAGE-LEVEL VARIABLES READ AS WHEN THE CALL BEGINS. Each datum BY PROGRAM (the guide's laid-datum.mjs) off the statement by which the dump's own 'gosem.cut.vars' lays the variable. In a bare row this is a premise. The card (YtfiiobachmglpaaGreatDoorCards.lean) ties it to the program's text. -/
def laid_tactus_item_half {H : Type} : DataW H := .agg [.lit (.int .i64 3), .lit (.int .i64 2)]

/-- 'tactuslaw17.RuleChooses': WHATEVER THE INPUT: true; the input reads as it did. -/
def ruleChoosesSpec : ChangeSpec := { name := "ruleChooses", fn := fun _ => fun
  | [d1, d2, d3] => { results := [.lit (.bool true)], args := [d1, d2, d3] }
  | _ => none }
def ruleChoosesRow : OpenClaim := { program := "ytfiiobachmglpaagreatdoor", sum := "b723458623b9a9335b178d11e919fa2773ad172cf5961efd49a41ae5c5b48282", func := "tactus/tactuslaw17.RuleChooses", spec := "ruleChooses", unfollowed := true, recurses := true, named := ["tactus/item.half"], plainKeys := false, apart := false, laid := [("tactus/item.half", laid_tactus_item_half)] }
def RuleChoosesSaid : Prop := ruleChoosesRow.holds Tryz.pinned (OpenSpec.ofChange ruleChoosesSpec)

/-- ITS FALSE NEIGHBOUR: 'it returns false'. Refute it at one input. -/
def ruleChoosesWrong : ChangeSpec := { name := "ruleChooses", fn := fun _ => fun
  | [d1, d2, d3] => { results := [.lit (.bool false)], args := [d1, d2, d3] }
  | _ => none }
def RuleChoosesWrongFalsely : Prop := ruleChoosesRow.holds Tryz.pinned (OpenSpec.ofChange ruleChoosesWrong)

/-- 'tactuslaw17.RuleMade': WHATEVER THE INPUT: true; the input reads as it did. -/
def ruleMadeSpec : ChangeSpec := { name := "ruleMade", fn := fun _ => fun
  | [d1, d2] => { results := [.lit (.bool true)], args := [d1, d2] }
  | _ => none }
def ruleMadeRow : OpenClaim := { program := "ytfiiobachmglpaagreatdoor", sum := "b723458623b9a9335b178d11e919fa2773ad172cf5961efd49a41ae5c5b48282", func := "tactus/tactuslaw17.RuleMade", spec := "ruleMade", unfollowed := true, recurses := true, named := ["tactus/item.half"], plainKeys := false, apart := false, laid := [("tactus/item.half", laid_tactus_item_half)] }
def RuleMadeSaid : Prop := ruleMadeRow.holds Tryz.pinned (OpenSpec.ofChange ruleMadeSpec)

/-- ITS FALSE NEIGHBOUR: 'it returns false'. Refute it at one input. -/
def ruleMadeWrong : ChangeSpec := { name := "ruleMade", fn := fun _ => fun
  | [d1, d2] => { results := [.lit (.bool false)], args := [d1, d2] }
  | _ => none }
def RuleMadeWrongFalsely : Prop := ruleMadeRow.holds Tryz.pinned (OpenSpec.ofChange ruleMadeWrong)

/-- 'tactuslaw17.RuleKnown': WHATEVER THE INPUT: true; the input reads as it did. -/
def ruleKnownSpec : ChangeSpec := { name := "ruleKnown", fn := fun _ => fun
  | [] => { results := [.lit (.bool true)], args := [] }
  | _ => none }
def ruleKnownRow : OpenClaim := { program := "ytfiiobachmglpaagreatdoor", sum := "b723458623b9a9335b178d11e919fa2773ad172cf5961efd49a41ae5c5b48282", func := "tactus/tactuslaw17.RuleKnown", spec := "ruleKnown", unfollowed := true, recurses := true, named := ["tactus/item.half"], plainKeys := false, apart := false, laid := [("tactus/item.half", laid_tactus_item_half)] }
def RuleKnownSaid : Prop := ruleKnownRow.holds Tryz.pinned (OpenSpec.ofChange ruleKnownSpec)

/-- ITS FALSE NEIGHBOUR: 'it returns false'. Refute it at one input. -/
def ruleKnownWrong : ChangeSpec := { name := "ruleKnown", fn := fun _ => fun
  | [] => { results := [.lit (.bool false)], args := [] }
  | _ => none }
def RuleKnownWrongFalsely : Prop := ruleKnownRow.holds Tryz.pinned (OpenSpec.ofChange ruleKnownWrong)

/-- 'tactuslaw17.RuleAllowed': WHATEVER THE INPUT: true; the input reads as it did. -/
def ruleAllowedSpec : ChangeSpec := { name := "ruleAllowed", fn := fun _ => fun
  | [d1, d2] => { results := [.lit (.bool true)], args := [d1, d2] }
  | _ => none }
def ruleAllowedRow : OpenClaim := { program := "ytfiiobachmglpaagreatdoor", sum := "b723458623b9a9335b178d11e919fa2773ad172cf5961efd49a41ae5c5b48282", func := "tactus/tactuslaw17.RuleAllowed", spec := "ruleAllowed", unfollowed := true, recurses := true, named := ["tactus/item.half"], plainKeys := false, apart := false, laid := [("tactus/item.half", laid_tactus_item_half)] }
def RuleAllowedSaid : Prop := ruleAllowedRow.holds Tryz.pinned (OpenSpec.ofChange ruleAllowedSpec)

/-- ITS FALSE NEIGHBOUR: 'it returns false'. Refute it at one input. -/
def ruleAllowedWrong : ChangeSpec := { name := "ruleAllowed", fn := fun _ => fun
  | [d1, d2] => { results := [.lit (.bool false)], args := [d1, d2] }
  | _ => none }
def RuleAllowedWrongFalsely : Prop := ruleAllowedRow.holds Tryz.pinned (OpenSpec.ofChange ruleAllowedWrong)

/-- 'tactuslaw17.RuleSteady': WHATEVER THE INPUT: true; the input reads as it did. -/
def ruleSteadySpec : ChangeSpec := { name := "ruleSteady", fn := fun _ => fun
  | [d1, d2] => { results := [.lit (.bool true)], args := [d1, d2] }
  | _ => none }
def ruleSteadyRow : OpenClaim := { program := "ytfiiobachmglpaagreatdoor", sum := "b723458623b9a9335b178d11e919fa2773ad172cf5961efd49a41ae5c5b48282", func := "tactus/tactuslaw17.RuleSteady", spec := "ruleSteady", unfollowed := true, recurses := true, named := ["tactus/item.half"], plainKeys := false, apart := false, laid := [("tactus/item.half", laid_tactus_item_half)] }
def RuleSteadySaid : Prop := ruleSteadyRow.holds Tryz.pinned (OpenSpec.ofChange ruleSteadySpec)

/-- ITS FALSE NEIGHBOUR: 'it returns false'. Refute it at one input. -/
def ruleSteadyWrong : ChangeSpec := { name := "ruleSteady", fn := fun _ => fun
  | [d1, d2] => { results := [.lit (.bool false)], args := [d1, d2] }
  | _ => none }
def RuleSteadyWrongFalsely : Prop := ruleSteadyRow.holds Tryz.pinned (OpenSpec.ofChange ruleSteadyWrong)

/-- 'tactuslaw17.RuleReads': WHATEVER THE INPUT: true; the input reads as it did. -/
def ruleReadsSpec : ChangeSpec := { name := "ruleReads", fn := fun _ => fun
  | [d1, d2, d3] => { results := [.lit (.bool true)], args := [d1, d2, d3] }
  | _ => none }
def ruleReadsRow : OpenClaim := { program := "ytfiiobachmglpaagreatdoor", sum := "b723458623b9a9335b178d11e919fa2773ad172cf5961efd49a41ae5c5b48282", func := "tactus/tactuslaw17.RuleReads", spec := "ruleReads", unfollowed := true, recurses := true, named := ["tactus/item.half"], plainKeys := false, apart := false, laid := [("tactus/item.half", laid_tactus_item_half)] }
def RuleReadsSaid : Prop := ruleReadsRow.holds Tryz.pinned (OpenSpec.ofChange ruleReadsSpec)

/-- ITS FALSE NEIGHBOUR: 'it returns false'. Refute it at one input. -/
def ruleReadsWrong : ChangeSpec := { name := "ruleReads", fn := fun _ => fun
  | [d1, d2, d3] => { results := [.lit (.bool false)], args := [d1, d2, d3] }
  | _ => none }
def RuleReadsWrongFalsely : Prop := ruleReadsRow.holds Tryz.pinned (OpenSpec.ofChange ruleReadsWrong)

/-- 'tactuslaw17.RuleEven': WHATEVER THE INPUT: true; the input reads as it did. -/
def ruleEvenSpec : ChangeSpec := { name := "ruleEven", fn := fun _ => fun
  | [d1, d2, d3] => { results := [.lit (.bool true)], args := [d1, d2, d3] }
  | _ => none }
def ruleEvenRow : OpenClaim := { program := "ytfiiobachmglpaagreatdoor", sum := "b723458623b9a9335b178d11e919fa2773ad172cf5961efd49a41ae5c5b48282", func := "tactus/tactuslaw17.RuleEven", spec := "ruleEven", unfollowed := true, recurses := true, named := ["tactus/item.half"], plainKeys := false, apart := false, laid := [("tactus/item.half", laid_tactus_item_half)] }
def RuleEvenSaid : Prop := ruleEvenRow.holds Tryz.pinned (OpenSpec.ofChange ruleEvenSpec)

/-- ITS FALSE NEIGHBOUR: 'it returns false'. Refute it at one input. -/
def ruleEvenWrong : ChangeSpec := { name := "ruleEven", fn := fun _ => fun
  | [d1, d2, d3] => { results := [.lit (.bool false)], args := [d1, d2, d3] }
  | _ => none }
def RuleEvenWrongFalsely : Prop := ruleEvenRow.holds Tryz.pinned (OpenSpec.ofChange ruleEvenWrong)

/-- 'tactuslaw18.ChoicesFields': WHATEVER THE INPUT: true; the input reads as it did. -/
def choicesFieldsSpec : ChangeSpec := { name := "choicesFields", fn := fun _ => fun
  | [d1, d2, d3] => { results := [.lit (.bool true)], args := [d1, d2, d3] }
  | _ => none }
def choicesFieldsRow : OpenClaim := { program := "ytfiiobachmglpaagreatdoor", sum := "b723458623b9a9335b178d11e919fa2773ad172cf5961efd49a41ae5c5b48282", func := "tactus/tactuslaw18.ChoicesFields", spec := "choicesFields", unfollowed := true, recurses := true, named := ["tactus/item.half"], plainKeys := false, apart := false, laid := [("tactus/item.half", laid_tactus_item_half)] }
def ChoicesFieldsSaid : Prop := choicesFieldsRow.holds Tryz.pinned (OpenSpec.ofChange choicesFieldsSpec)

/-- ITS FALSE NEIGHBOUR: 'it returns false'. Refute it at one input. -/
def choicesFieldsWrong : ChangeSpec := { name := "choicesFields", fn := fun _ => fun
  | [d1, d2, d3] => { results := [.lit (.bool false)], args := [d1, d2, d3] }
  | _ => none }
def ChoicesFieldsWrongFalsely : Prop := choicesFieldsRow.holds Tryz.pinned (OpenSpec.ofChange choicesFieldsWrong)

/-- 'tactuslaw18.ChoicesSingle': WHATEVER THE INPUT: true; the input reads as it did. -/
def choicesSingleSpec : ChangeSpec := { name := "choicesSingle", fn := fun _ => fun
  | [d] => { results := [.lit (.bool true)], args := [d] }
  | _ => none }
def choicesSingleRow : OpenClaim := { program := "ytfiiobachmglpaagreatdoor", sum := "b723458623b9a9335b178d11e919fa2773ad172cf5961efd49a41ae5c5b48282", func := "tactus/tactuslaw18.ChoicesSingle", spec := "choicesSingle", unfollowed := true, recurses := true, named := ["tactus/item.half"], plainKeys := false, apart := false, laid := [("tactus/item.half", laid_tactus_item_half)] }
def ChoicesSingleSaid : Prop := choicesSingleRow.holds Tryz.pinned (OpenSpec.ofChange choicesSingleSpec)

/-- ITS FALSE NEIGHBOUR: 'it returns false'. Refute it at one input. -/
def choicesSingleWrong : ChangeSpec := { name := "choicesSingle", fn := fun _ => fun
  | [d] => { results := [.lit (.bool false)], args := [d] }
  | _ => none }
def ChoicesSingleWrongFalsely : Prop := choicesSingleRow.holds Tryz.pinned (OpenSpec.ofChange choicesSingleWrong)

/-- 'tactuslaw22.SpellReads': WHATEVER THE INPUT: true; the input reads as it did. -/
def spellReadsSpec : ChangeSpec := { name := "spellReads", fn := fun _ => fun
  | [d1, d2, d3] => { results := [.lit (.bool true)], args := [d1, d2, d3] }
  | _ => none }
def spellReadsRow : OpenClaim := { program := "ytfiiobachmglpaagreatdoor", sum := "b723458623b9a9335b178d11e919fa2773ad172cf5961efd49a41ae5c5b48282", func := "tactus/tactuslaw22.SpellReads", spec := "spellReads", unfollowed := true, recurses := true, named := ["tactus/item.half"], plainKeys := false, apart := false, laid := [("tactus/item.half", laid_tactus_item_half)] }
def SpellReadsSaid : Prop := spellReadsRow.holds Tryz.pinned (OpenSpec.ofChange spellReadsSpec)

/-- ITS FALSE NEIGHBOUR: 'it returns false'. Refute it at one input. -/
def spellReadsWrong : ChangeSpec := { name := "spellReads", fn := fun _ => fun
  | [d1, d2, d3] => { results := [.lit (.bool false)], args := [d1, d2, d3] }
  | _ => none }
def SpellReadsWrongFalsely : Prop := spellReadsRow.holds Tryz.pinned (OpenSpec.ofChange spellReadsWrong)

/-- 'tactuslaw18.ChoicesEach': WHATEVER THE INPUT: true; the input reads as it did. -/
def choicesEachSpec : ChangeSpec := { name := "choicesEach", fn := fun _ => fun
  | [d1, d2, d3, d4] => { results := [.lit (.bool true)], args := [d1, d2, d3, d4] }
  | _ => none }
def choicesEachRow : OpenClaim := { program := "ytfiiobachmglpaagreatdoor", sum := "b723458623b9a9335b178d11e919fa2773ad172cf5961efd49a41ae5c5b48282", func := "tactus/tactuslaw18.ChoicesEach", spec := "choicesEach", unfollowed := true, recurses := true, named := ["tactus/item.half"], plainKeys := false, apart := false, laid := [("tactus/item.half", laid_tactus_item_half)] }
def ChoicesEachSaid : Prop := choicesEachRow.holds Tryz.pinned (OpenSpec.ofChange choicesEachSpec)

/-- ITS FALSE NEIGHBOUR: 'it returns false'. Refute it at one input. -/
def choicesEachWrong : ChangeSpec := { name := "choicesEach", fn := fun _ => fun
  | [d1, d2, d3, d4] => { results := [.lit (.bool false)], args := [d1, d2, d3, d4] }
  | _ => none }
def ChoicesEachWrongFalsely : Prop := choicesEachRow.holds Tryz.pinned (OpenSpec.ofChange choicesEachWrong)

/-- 'tactuslaw18.ChoicesEnds': WHATEVER THE INPUT: true; the input reads as it did. -/
def choicesEndsSpec : ChangeSpec := { name := "choicesEnds", fn := fun _ => fun
  | [d1, d2] => { results := [.lit (.bool true)], args := [d1, d2] }
  | _ => none }
def choicesEndsRow : OpenClaim := { program := "ytfiiobachmglpaagreatdoor", sum := "b723458623b9a9335b178d11e919fa2773ad172cf5961efd49a41ae5c5b48282", func := "tactus/tactuslaw18.ChoicesEnds", spec := "choicesEnds", unfollowed := true, recurses := true, named := ["tactus/item.half"], plainKeys := false, apart := false, laid := [("tactus/item.half", laid_tactus_item_half)] }
def ChoicesEndsSaid : Prop := choicesEndsRow.holds Tryz.pinned (OpenSpec.ofChange choicesEndsSpec)

/-- ITS FALSE NEIGHBOUR: 'it returns false'. Refute it at one input. -/
def choicesEndsWrong : ChangeSpec := { name := "choicesEnds", fn := fun _ => fun
  | [d1, d2] => { results := [.lit (.bool false)], args := [d1, d2] }
  | _ => none }
def ChoicesEndsWrongFalsely : Prop := choicesEndsRow.holds Tryz.pinned (OpenSpec.ofChange choicesEndsWrong)

/-- 'tactuslaw18.ChoicesKnown': WHATEVER THE INPUT: true; the input reads as it did. -/
def choicesKnownSpec : ChangeSpec := { name := "choicesKnown", fn := fun _ => fun
  | [] => { results := [.lit (.bool true)], args := [] }
  | _ => none }
def choicesKnownRow : OpenClaim := { program := "ytfiiobachmglpaagreatdoor", sum := "b723458623b9a9335b178d11e919fa2773ad172cf5961efd49a41ae5c5b48282", func := "tactus/tactuslaw18.ChoicesKnown", spec := "choicesKnown", unfollowed := true, recurses := true, named := ["tactus/item.half"], plainKeys := false, apart := false, laid := [("tactus/item.half", laid_tactus_item_half)] }
def ChoicesKnownSaid : Prop := choicesKnownRow.holds Tryz.pinned (OpenSpec.ofChange choicesKnownSpec)

/-- ITS FALSE NEIGHBOUR: 'it returns false'. Refute it at one input. -/
def choicesKnownWrong : ChangeSpec := { name := "choicesKnown", fn := fun _ => fun
  | [] => { results := [.lit (.bool false)], args := [] }
  | _ => none }
def ChoicesKnownWrongFalsely : Prop := choicesKnownRow.holds Tryz.pinned (OpenSpec.ofChange choicesKnownWrong)

/- THE SECOND FORM. 'bulk': how many values and letters a reading holds, each counted each time it is reached (what is shared counts as often as it is met; a slice's spare places count too). A statement '..UptoSaid' is the law's where the arguments, and the package variables that the reading takes, are together of bulk at most 1048576: NARROWER than '..Said'. Prove '..Said' where nothing that the law and all that it calls make is longer than what came in: it says more and counts as full. Else prove '..UptoSaid'. A law counts once. -/
mutual
def uptoBulk {H : Type} : DataW H → Nat
  | .lit (.string bytes) => bytes.length + 1
  | .lit _ => 1
  | .nil => 1
  | .ptr d => uptoBulk d + 1
  | .slice elems spare => uptoBulkAll elems + uptoBulkAll spare + 1
  | .agg parts => uptoBulkAll parts + 1
  | .iface _ d => uptoBulk d + 1
  | .map entries => uptoBulkEntries entries + 1
  | .held _ => 1
def uptoBulkAll {H : Type} : List (DataW H) → Nat
  | [] => 0
  | d :: r => uptoBulk d + uptoBulkAll r
def uptoBulkEntries {H : Type} : List (Lit × DataW H) → Nat
  | [] => 0
  | x :: r => uptoBulkEntry x + uptoBulkEntries r
def uptoBulkEntry {H : Type} : Lit × DataW H → Nat
  | (.string bytes, d) => bytes.length + uptoBulk d + 1
  | (_, d) => uptoBulk d + 1
 end
def uptoSmall : (H : Type) → List (DataW H) → Bool := fun _ ds => decide (uptoBulkAll ds ≤ 1048576)
def OpenSpec.upto (s : _root_.Go.ChangeSpec) : _root_.Go.OpenSpec := { _root_.Go.OpenSpec.ofChange s with cond := some uptoSmall }

/-- 'tactuslaw17.RuleChooses', WHERE WHAT IT READS IS OF BULK AT MOST 1048576: true; the input reads as it did. -/
def ruleChoosesUptoRow : OpenClaim := { program := "ytfiiobachmglpaagreatdoor", sum := "b723458623b9a9335b178d11e919fa2773ad172cf5961efd49a41ae5c5b48282", func := "tactus/tactuslaw17.RuleChooses", spec := "ruleChooses", unfollowed := true, recurses := true, named := ["tactus/item.half"], plainKeys := false, apart := false, laid := [("tactus/item.half", laid_tactus_item_half)], narrowed := true }
def RuleChoosesUptoSaid : Prop := ruleChoosesUptoRow.holds Tryz.pinned (OpenSpec.upto ruleChoosesSpec)

/-- 'tactuslaw17.RuleMade', WHERE WHAT IT READS IS OF BULK AT MOST 1048576: true; the input reads as it did. -/
def ruleMadeUptoRow : OpenClaim := { program := "ytfiiobachmglpaagreatdoor", sum := "b723458623b9a9335b178d11e919fa2773ad172cf5961efd49a41ae5c5b48282", func := "tactus/tactuslaw17.RuleMade", spec := "ruleMade", unfollowed := true, recurses := true, named := ["tactus/item.half"], plainKeys := false, apart := false, laid := [("tactus/item.half", laid_tactus_item_half)], narrowed := true }
def RuleMadeUptoSaid : Prop := ruleMadeUptoRow.holds Tryz.pinned (OpenSpec.upto ruleMadeSpec)

/-- 'tactuslaw17.RuleKnown', WHERE WHAT IT READS IS OF BULK AT MOST 1048576: true; the input reads as it did. -/
def ruleKnownUptoRow : OpenClaim := { program := "ytfiiobachmglpaagreatdoor", sum := "b723458623b9a9335b178d11e919fa2773ad172cf5961efd49a41ae5c5b48282", func := "tactus/tactuslaw17.RuleKnown", spec := "ruleKnown", unfollowed := true, recurses := true, named := ["tactus/item.half"], plainKeys := false, apart := false, laid := [("tactus/item.half", laid_tactus_item_half)], narrowed := true }
def RuleKnownUptoSaid : Prop := ruleKnownUptoRow.holds Tryz.pinned (OpenSpec.upto ruleKnownSpec)

/-- 'tactuslaw17.RuleAllowed', WHERE WHAT IT READS IS OF BULK AT MOST 1048576: true; the input reads as it did. -/
def ruleAllowedUptoRow : OpenClaim := { program := "ytfiiobachmglpaagreatdoor", sum := "b723458623b9a9335b178d11e919fa2773ad172cf5961efd49a41ae5c5b48282", func := "tactus/tactuslaw17.RuleAllowed", spec := "ruleAllowed", unfollowed := true, recurses := true, named := ["tactus/item.half"], plainKeys := false, apart := false, laid := [("tactus/item.half", laid_tactus_item_half)], narrowed := true }
def RuleAllowedUptoSaid : Prop := ruleAllowedUptoRow.holds Tryz.pinned (OpenSpec.upto ruleAllowedSpec)

/-- 'tactuslaw17.RuleSteady', WHERE WHAT IT READS IS OF BULK AT MOST 1048576: true; the input reads as it did. -/
def ruleSteadyUptoRow : OpenClaim := { program := "ytfiiobachmglpaagreatdoor", sum := "b723458623b9a9335b178d11e919fa2773ad172cf5961efd49a41ae5c5b48282", func := "tactus/tactuslaw17.RuleSteady", spec := "ruleSteady", unfollowed := true, recurses := true, named := ["tactus/item.half"], plainKeys := false, apart := false, laid := [("tactus/item.half", laid_tactus_item_half)], narrowed := true }
def RuleSteadyUptoSaid : Prop := ruleSteadyUptoRow.holds Tryz.pinned (OpenSpec.upto ruleSteadySpec)

/-- 'tactuslaw17.RuleReads', WHERE WHAT IT READS IS OF BULK AT MOST 1048576: true; the input reads as it did. -/
def ruleReadsUptoRow : OpenClaim := { program := "ytfiiobachmglpaagreatdoor", sum := "b723458623b9a9335b178d11e919fa2773ad172cf5961efd49a41ae5c5b48282", func := "tactus/tactuslaw17.RuleReads", spec := "ruleReads", unfollowed := true, recurses := true, named := ["tactus/item.half"], plainKeys := false, apart := false, laid := [("tactus/item.half", laid_tactus_item_half)], narrowed := true }
def RuleReadsUptoSaid : Prop := ruleReadsUptoRow.holds Tryz.pinned (OpenSpec.upto ruleReadsSpec)

/-- 'tactuslaw17.RuleEven', WHERE WHAT IT READS IS OF BULK AT MOST 1048576: true; the input reads as it did. -/
def ruleEvenUptoRow : OpenClaim := { program := "ytfiiobachmglpaagreatdoor", sum := "b723458623b9a9335b178d11e919fa2773ad172cf5961efd49a41ae5c5b48282", func := "tactus/tactuslaw17.RuleEven", spec := "ruleEven", unfollowed := true, recurses := true, named := ["tactus/item.half"], plainKeys := false, apart := false, laid := [("tactus/item.half", laid_tactus_item_half)], narrowed := true }
def RuleEvenUptoSaid : Prop := ruleEvenUptoRow.holds Tryz.pinned (OpenSpec.upto ruleEvenSpec)

/-- 'tactuslaw18.ChoicesFields', WHERE WHAT IT READS IS OF BULK AT MOST 1048576: true; the input reads as it did. -/
def choicesFieldsUptoRow : OpenClaim := { program := "ytfiiobachmglpaagreatdoor", sum := "b723458623b9a9335b178d11e919fa2773ad172cf5961efd49a41ae5c5b48282", func := "tactus/tactuslaw18.ChoicesFields", spec := "choicesFields", unfollowed := true, recurses := true, named := ["tactus/item.half"], plainKeys := false, apart := false, laid := [("tactus/item.half", laid_tactus_item_half)], narrowed := true }
def ChoicesFieldsUptoSaid : Prop := choicesFieldsUptoRow.holds Tryz.pinned (OpenSpec.upto choicesFieldsSpec)

/-- 'tactuslaw18.ChoicesSingle', WHERE WHAT IT READS IS OF BULK AT MOST 1048576: true; the input reads as it did. -/
def choicesSingleUptoRow : OpenClaim := { program := "ytfiiobachmglpaagreatdoor", sum := "b723458623b9a9335b178d11e919fa2773ad172cf5961efd49a41ae5c5b48282", func := "tactus/tactuslaw18.ChoicesSingle", spec := "choicesSingle", unfollowed := true, recurses := true, named := ["tactus/item.half"], plainKeys := false, apart := false, laid := [("tactus/item.half", laid_tactus_item_half)], narrowed := true }
def ChoicesSingleUptoSaid : Prop := choicesSingleUptoRow.holds Tryz.pinned (OpenSpec.upto choicesSingleSpec)

/-- 'tactuslaw22.SpellReads', WHERE WHAT IT READS IS OF BULK AT MOST 1048576: true; the input reads as it did. -/
def spellReadsUptoRow : OpenClaim := { program := "ytfiiobachmglpaagreatdoor", sum := "b723458623b9a9335b178d11e919fa2773ad172cf5961efd49a41ae5c5b48282", func := "tactus/tactuslaw22.SpellReads", spec := "spellReads", unfollowed := true, recurses := true, named := ["tactus/item.half"], plainKeys := false, apart := false, laid := [("tactus/item.half", laid_tactus_item_half)], narrowed := true }
def SpellReadsUptoSaid : Prop := spellReadsUptoRow.holds Tryz.pinned (OpenSpec.upto spellReadsSpec)

/-- 'tactuslaw18.ChoicesEach', WHERE WHAT IT READS IS OF BULK AT MOST 1048576: true; the input reads as it did. -/
def choicesEachUptoRow : OpenClaim := { program := "ytfiiobachmglpaagreatdoor", sum := "b723458623b9a9335b178d11e919fa2773ad172cf5961efd49a41ae5c5b48282", func := "tactus/tactuslaw18.ChoicesEach", spec := "choicesEach", unfollowed := true, recurses := true, named := ["tactus/item.half"], plainKeys := false, apart := false, laid := [("tactus/item.half", laid_tactus_item_half)], narrowed := true }
def ChoicesEachUptoSaid : Prop := choicesEachUptoRow.holds Tryz.pinned (OpenSpec.upto choicesEachSpec)

/-- 'tactuslaw18.ChoicesEnds', WHERE WHAT IT READS IS OF BULK AT MOST 1048576: true; the input reads as it did. -/
def choicesEndsUptoRow : OpenClaim := { program := "ytfiiobachmglpaagreatdoor", sum := "b723458623b9a9335b178d11e919fa2773ad172cf5961efd49a41ae5c5b48282", func := "tactus/tactuslaw18.ChoicesEnds", spec := "choicesEnds", unfollowed := true, recurses := true, named := ["tactus/item.half"], plainKeys := false, apart := false, laid := [("tactus/item.half", laid_tactus_item_half)], narrowed := true }
def ChoicesEndsUptoSaid : Prop := choicesEndsUptoRow.holds Tryz.pinned (OpenSpec.upto choicesEndsSpec)

/-- 'tactuslaw18.ChoicesKnown', WHERE WHAT IT READS IS OF BULK AT MOST 1048576: true; the input reads as it did. -/
def choicesKnownUptoRow : OpenClaim := { program := "ytfiiobachmglpaagreatdoor", sum := "b723458623b9a9335b178d11e919fa2773ad172cf5961efd49a41ae5c5b48282", func := "tactus/tactuslaw18.ChoicesKnown", spec := "choicesKnown", unfollowed := true, recurses := true, named := ["tactus/item.half"], plainKeys := false, apart := false, laid := [("tactus/item.half", laid_tactus_item_half)], narrowed := true }
def ChoicesKnownUptoSaid : Prop := choicesKnownUptoRow.holds Tryz.pinned (OpenSpec.upto choicesKnownSpec)

end Rows
end Go.Proofs.YtfiiobachmglpaaGreatDoor
