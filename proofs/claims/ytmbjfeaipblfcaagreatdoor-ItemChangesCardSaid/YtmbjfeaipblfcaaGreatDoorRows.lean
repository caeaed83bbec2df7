/-
  NARROWER THAN 'FOR EVERY INPUT', by the rows' own cells (each row's printed sentence says how): ItemItems: laid · ItemCombos: laid · ItemFull: laid · ItemOf: laid · ItemChanges: laid · RuleChooses: laid · RuleMade: laid · RuleKnown: laid · RuleAllowed: laid · RuleSteady: laid · RuleReads: laid · RuleEven: laid.
  DERIVED. THE GIVEN ROWS OF THIS SEAT. 12 by the template 'for every input the law returns true; each argument reads behind the call as it read before'; 0 by the template 'total and deterministic' (their statements: YtmbjfeaipblfcaaGreatDoorTotals.lean).
  GIVEN WITH THE SEED: the statements are not yours to turn. If you find one false, say at which input.
  Laid BY PROGRAM, IN A SANDBOX (cutbox-rows.mjs): the forced cells as the released guide's own fill.sh prints them over the translation 7ccbe036ce8cca88… (all of the seat's roots in one cut). By AI agents, Wed Nov 11 2026. No macro, syntax, notation, axiom, sorry.
-/
import Derived.Test.YtmbjfeaipblfcaaGreatDoorChecked
import GoSem.Claim
import GoSem.ClaimJoined
import GoSem.ClaimMapViews
import Derived.JoinedTies
import Derived.KernelRfl
namespace Go.Proofs.YtmbjfeaipblfcaaGreatDoor
/- THE CELL 'sum', in the pinned program and in every row, IS THE sha256 OF THE DUMP (.gsa) THAT YtmbjfeaipblfcaaGreatDoorProg.lean LOADS. Nothing in Lean hashes anything: it is a label: what it is worth is what the hold of that sum in a sandbox is worth. -/
noncomputable def Tryz.pinned : Pinned := { name := "ytmbjfeaipblfcaagreatdoor", sum := "7ccbe036ce8cca8818168214b9d490cc6b04949f1761bdaf9d293d9ab4b2d05e", checked := Tryz.checked }
namespace Rows
def none {H : Type} : Left H := { results := [], args := [] }

/- WHAT THE LISTED PACKAGE-LEVEL VARIABLES READ AS WHEN THE CALL BEGINS. Each datum BY PROGRAM (the guide's laid-datum.mjs) off the statement by which the dump's own 'gosem.cut.vars' lays the variable. In a bare row this is a premise. The card (YtmbjfeaipblfcaaGreatDoorCards.lean) ties it to the program's text. -/
def laid_tactus_item_half {H : Type} : DataW H := .agg [.lit (.int .i64 3), .lit (.int .i64 2)]

/-- 'tactuslaw13.ItemItems': WHATEVER THE INPUT: true; the input reads as it did. -/
def itemItemsSpec : ChangeSpec := { name := "itemItems", fn := fun _ => fun
  | [d1, d2, d3, d4] => { results := [.lit (.bool true)], args := [d1, d2, d3, d4] }
  | _ => none }
def itemItemsRow : OpenClaim := { program := "ytmbjfeaipblfcaagreatdoor", sum := "7ccbe036ce8cca8818168214b9d490cc6b04949f1761bdaf9d293d9ab4b2d05e", func := "tactus/tactuslaw13.ItemItems", spec := "itemItems", unfollowed := true, recurses := true, named := ["tactus/item.half"], apart := false, laid := [("tactus/item.half", laid_tactus_item_half)] }
def ItemItemsSaid : Prop := itemItemsRow.holds Tryz.pinned (OpenSpec.ofChange itemItemsSpec)

/-- ITS FALSE NEIGHBOUR: 'it returns false'. Refute it at one input. -/
def itemItemsWrong : ChangeSpec := { name := "itemItems", fn := fun _ => fun
  | [d1, d2, d3, d4] => { results := [.lit (.bool false)], args := [d1, d2, d3, d4] }
  | _ => none }
def ItemItemsWrongFalsely : Prop := itemItemsRow.holds Tryz.pinned (OpenSpec.ofChange itemItemsWrong)

/-- 'tactuslaw13.ItemCombos': WHATEVER THE INPUT: true; the input reads as it did. -/
def itemCombosSpec : ChangeSpec := { name := "itemCombos", fn := fun _ => fun
  | [d1, d2, d3] => { results := [.lit (.bool true)], args := [d1, d2, d3] }
  | _ => none }
def itemCombosRow : OpenClaim := { program := "ytmbjfeaipblfcaagreatdoor", sum := "7ccbe036ce8cca8818168214b9d490cc6b04949f1761bdaf9d293d9ab4b2d05e", func := "tactus/tactuslaw13.ItemCombos", spec := "itemCombos", unfollowed := true, recurses := true, named := ["tactus/item.half"], apart := false, laid := [("tactus/item.half", laid_tactus_item_half)] }
def ItemCombosSaid : Prop := itemCombosRow.holds Tryz.pinned (OpenSpec.ofChange itemCombosSpec)

/-- ITS FALSE NEIGHBOUR: 'it returns false'. Refute it at one input. -/
def itemCombosWrong : ChangeSpec := { name := "itemCombos", fn := fun _ => fun
  | [d1, d2, d3] => { results := [.lit (.bool false)], args := [d1, d2, d3] }
  | _ => none }
def ItemCombosWrongFalsely : Prop := itemCombosRow.holds Tryz.pinned (OpenSpec.ofChange itemCombosWrong)

/-- 'tactuslaw13.ItemFull': WHATEVER THE INPUT: true; the input reads as it did. -/
def itemFullSpec : ChangeSpec := { name := "itemFull", fn := fun _ => fun
  | [d1, d2] => { results := [.lit (.bool true)], args := [d1, d2] }
  | _ => none }
def itemFullRow : OpenClaim := { program := "ytmbjfeaipblfcaagreatdoor", sum := "7ccbe036ce8cca8818168214b9d490cc6b04949f1761bdaf9d293d9ab4b2d05e", func := "tactus/tactuslaw13.ItemFull", spec := "itemFull", unfollowed := true, recurses := true, named := ["tactus/item.half"], apart := false, laid := [("tactus/item.half", laid_tactus_item_half)] }
def ItemFullSaid : Prop := itemFullRow.holds Tryz.pinned (OpenSpec.ofChange itemFullSpec)

/-- ITS FALSE NEIGHBOUR: 'it returns false'. Refute it at one input. -/
def itemFullWrong : ChangeSpec := { name := "itemFull", fn := fun _ => fun
  | [d1, d2] => { results := [.lit (.bool false)], args := [d1, d2] }
  | _ => none }
def ItemFullWrongFalsely : Prop := itemFullRow.holds Tryz.pinned (OpenSpec.ofChange itemFullWrong)

/-- 'tactuslaw13.ItemOf': WHATEVER THE INPUT: true; the input reads as it did. -/
def itemOfSpec : ChangeSpec := { name := "itemOf", fn := fun _ => fun
  | [d1, d2] => { results := [.lit (.bool true)], args := [d1, d2] }
  | _ => none }
def itemOfRow : OpenClaim := { program := "ytmbjfeaipblfcaagreatdoor", sum := "7ccbe036ce8cca8818168214b9d490cc6b04949f1761bdaf9d293d9ab4b2d05e", func := "tactus/tactuslaw13.ItemOf", spec := "itemOf", unfollowed := true, recurses := true, named := ["tactus/item.half"], apart := false, laid := [("tactus/item.half", laid_tactus_item_half)] }
def ItemOfSaid : Prop := itemOfRow.holds Tryz.pinned (OpenSpec.ofChange itemOfSpec)

/-- ITS FALSE NEIGHBOUR: 'it returns false'. Refute it at one input. -/
def itemOfWrong : ChangeSpec := { name := "itemOf", fn := fun _ => fun
  | [d1, d2] => { results := [.lit (.bool false)], args := [d1, d2] }
  | _ => none }
def ItemOfWrongFalsely : Prop := itemOfRow.holds Tryz.pinned (OpenSpec.ofChange itemOfWrong)

/-- 'tactuslaw13.ItemChanges': WHATEVER THE INPUT: true; the input reads as it did. -/
def itemChangesSpec : ChangeSpec := { name := "itemChanges", fn := fun _ => fun
  | [d1, d2, d3, d4] => { results := [.lit (.bool true)], args := [d1, d2, d3, d4] }
  | _ => none }
def itemChangesRow : OpenClaim := { program := "ytmbjfeaipblfcaagreatdoor", sum := "7ccbe036ce8cca8818168214b9d490cc6b04949f1761bdaf9d293d9ab4b2d05e", func := "tactus/tactuslaw13.ItemChanges", spec := "itemChanges", unfollowed := true, recurses := true, named := ["tactus/item.half"], apart := false, laid := [("tactus/item.half", laid_tactus_item_half)] }
def ItemChangesSaid : Prop := itemChangesRow.holds Tryz.pinned (OpenSpec.ofChange itemChangesSpec)

/-- ITS FALSE NEIGHBOUR: 'it returns false'. Refute it at one input. -/
def itemChangesWrong : ChangeSpec := { name := "itemChanges", fn := fun _ => fun
  | [d1, d2, d3, d4] => { results := [.lit (.bool false)], args := [d1, d2, d3, d4] }
  | _ => none }
def ItemChangesWrongFalsely : Prop := itemChangesRow.holds Tryz.pinned (OpenSpec.ofChange itemChangesWrong)

/-- 'tactuslaw17.RuleChooses': WHATEVER THE INPUT: true; the input reads as it did. -/
def ruleChoosesSpec : ChangeSpec := { name := "ruleChooses", fn := fun _ => fun
  | [d1, d2, d3] => { results := [.lit (.bool true)], args := [d1, d2, d3] }
  | _ => none }
def ruleChoosesRow : OpenClaim := { program := "ytmbjfeaipblfcaagreatdoor", sum := "7ccbe036ce8cca8818168214b9d490cc6b04949f1761bdaf9d293d9ab4b2d05e", func := "tactus/tactuslaw17.RuleChooses", spec := "ruleChooses", unfollowed := true, recurses := true, named := ["tactus/item.half"], apart := false, laid := [("tactus/item.half", laid_tactus_item_half)] }
def RuleChoosesSaid : Prop := ruleChoosesRow.holds Tryz.pinned (OpenSpec.ofChange ruleChoosesSpec)

/-- ITS FALSE NEIGHBOUR: 'it returns false'. Refute it at one input. -/
def ruleChoosesWrong : ChangeSpec := { name := "ruleChooses", fn := fun _ => fun
  | [d1, d2, d3] => { results := [.lit (.bool false)], args := [d1, d2, d3] }
  | _ => none }
def RuleChoosesWrongFalsely : Prop := ruleChoosesRow.holds Tryz.pinned (OpenSpec.ofChange ruleChoosesWrong)

/-- 'tactuslaw17.RuleMade': WHATEVER THE INPUT: true; the input reads as it did. -/
def ruleMadeSpec : ChangeSpec := { name := "ruleMade", fn := fun _ => fun
  | [d1, d2] => { results := [.lit (.bool true)], args := [d1, d2] }
  | _ => none }
def ruleMadeRow : OpenClaim := { program := "ytmbjfeaipblfcaagreatdoor", sum := "7ccbe036ce8cca8818168214b9d490cc6b04949f1761bdaf9d293d9ab4b2d05e", func := "tactus/tactuslaw17.RuleMade", spec := "ruleMade", unfollowed := true, recurses := true, named := ["tactus/item.half"], apart := false, laid := [("tactus/item.half", laid_tactus_item_half)] }
def RuleMadeSaid : Prop := ruleMadeRow.holds Tryz.pinned (OpenSpec.ofChange ruleMadeSpec)

/-- ITS FALSE NEIGHBOUR: 'it returns false'. Refute it at one input. -/
def ruleMadeWrong : ChangeSpec := { name := "ruleMade", fn := fun _ => fun
  | [d1, d2] => { results := [.lit (.bool false)], args := [d1, d2] }
  | _ => none }
def RuleMadeWrongFalsely : Prop := ruleMadeRow.holds Tryz.pinned (OpenSpec.ofChange ruleMadeWrong)

/-- 'tactuslaw17.RuleKnown': WHATEVER THE INPUT: true; the input reads as it did. -/
def ruleKnownSpec : ChangeSpec := { name := "ruleKnown", fn := fun _ => fun
  | [] => { results := [.lit (.bool true)], args := [] }
  | _ => none }
def ruleKnownRow : OpenClaim := { program := "ytmbjfeaipblfcaagreatdoor", sum := "7ccbe036ce8cca8818168214b9d490cc6b04949f1761bdaf9d293d9ab4b2d05e", func := "tactus/tactuslaw17.RuleKnown", spec := "ruleKnown", unfollowed := true, recurses := true, named := ["tactus/item.half"], apart := false, laid := [("tactus/item.half", laid_tactus_item_half)] }
def RuleKnownSaid : Prop := ruleKnownRow.holds Tryz.pinned (OpenSpec.ofChange ruleKnownSpec)

/-- ITS FALSE NEIGHBOUR: 'it returns false'. Refute it at one input. -/
def ruleKnownWrong : ChangeSpec := { name := "ruleKnown", fn := fun _ => fun
  | [] => { results := [.lit (.bool false)], args := [] }
  | _ => none }
def RuleKnownWrongFalsely : Prop := ruleKnownRow.holds Tryz.pinned (OpenSpec.ofChange ruleKnownWrong)

/-- 'tactuslaw17.RuleAllowed': WHATEVER THE INPUT: true; the input reads as it did. -/
def ruleAllowedSpec : ChangeSpec := { name := "ruleAllowed", fn := fun _ => fun
  | [d1, d2] => { results := [.lit (.bool true)], args := [d1, d2] }
  | _ => none }
def ruleAllowedRow : OpenClaim := { program := "ytmbjfeaipblfcaagreatdoor", sum := "7ccbe036ce8cca8818168214b9d490cc6b04949f1761bdaf9d293d9ab4b2d05e", func := "tactus/tactuslaw17.RuleAllowed", spec := "ruleAllowed", unfollowed := true, recurses := true, named := ["tactus/item.half"], apart := false, laid := [("tactus/item.half", laid_tactus_item_half)] }
def RuleAllowedSaid : Prop := ruleAllowedRow.holds Tryz.pinned (OpenSpec.ofChange ruleAllowedSpec)

/-- ITS FALSE NEIGHBOUR: 'it returns false'. Refute it at one input. -/
def ruleAllowedWrong : ChangeSpec := { name := "ruleAllowed", fn := fun _ => fun
  | [d1, d2] => { results := [.lit (.bool false)], args := [d1, d2] }
  | _ => none }
def RuleAllowedWrongFalsely : Prop := ruleAllowedRow.holds Tryz.pinned (OpenSpec.ofChange ruleAllowedWrong)

/-- 'tactuslaw17.RuleSteady': WHATEVER THE INPUT: true; the input reads as it did. -/
def ruleSteadySpec : ChangeSpec := { name := "ruleSteady", fn := fun _ => fun
  | [d1, d2] => { results := [.lit (.bool true)], args := [d1, d2] }
  | _ => none }
def ruleSteadyRow : OpenClaim := { program := "ytmbjfeaipblfcaagreatdoor", sum := "7ccbe036ce8cca8818168214b9d490cc6b04949f1761bdaf9d293d9ab4b2d05e", func := "tactus/tactuslaw17.RuleSteady", spec := "ruleSteady", unfollowed := true, recurses := true, named := ["tactus/item.half"], apart := false, laid := [("tactus/item.half", laid_tactus_item_half)] }
def RuleSteadySaid : Prop := ruleSteadyRow.holds Tryz.pinned (OpenSpec.ofChange ruleSteadySpec)

/-- ITS FALSE NEIGHBOUR: 'it returns false'. Refute it at one input. -/
def ruleSteadyWrong : ChangeSpec := { name := "ruleSteady", fn := fun _ => fun
  | [d1, d2] => { results := [.lit (.bool false)], args := [d1, d2] }
  | _ => none }
def RuleSteadyWrongFalsely : Prop := ruleSteadyRow.holds Tryz.pinned (OpenSpec.ofChange ruleSteadyWrong)

/-- 'tactuslaw17.RuleReads': WHATEVER THE INPUT: true; the input reads as it did. -/
def ruleReadsSpec : ChangeSpec := { name := "ruleReads", fn := fun _ => fun
  | [d1, d2, d3] => { results := [.lit (.bool true)], args := [d1, d2, d3] }
  | _ => none }
def ruleReadsRow : OpenClaim := { program := "ytmbjfeaipblfcaagreatdoor", sum := "7ccbe036ce8cca8818168214b9d490cc6b04949f1761bdaf9d293d9ab4b2d05e", func := "tactus/tactuslaw17.RuleReads", spec := "ruleReads", unfollowed := true, recurses := true, named := ["tactus/item.half"], apart := false, laid := [("tactus/item.half", laid_tactus_item_half)] }
def RuleReadsSaid : Prop := ruleReadsRow.holds Tryz.pinned (OpenSpec.ofChange ruleReadsSpec)

/-- ITS FALSE NEIGHBOUR: 'it returns false'. Refute it at one input. -/
def ruleReadsWrong : ChangeSpec := { name := "ruleReads", fn := fun _ => fun
  | [d1, d2, d3] => { results := [.lit (.bool false)], args := [d1, d2, d3] }
  | _ => none }
def RuleReadsWrongFalsely : Prop := ruleReadsRow.holds Tryz.pinned (OpenSpec.ofChange ruleReadsWrong)

/-- 'tactuslaw17.RuleEven': WHATEVER THE INPUT: true; the input reads as it did. -/
def ruleEvenSpec : ChangeSpec := { name := "ruleEven", fn := fun _ => fun
  | [d1, d2, d3] => { results := [.lit (.bool true)], args := [d1, d2, d3] }
  | _ => none }
def ruleEvenRow : OpenClaim := { program := "ytmbjfeaipblfcaagreatdoor", sum := "7ccbe036ce8cca8818168214b9d490cc6b04949f1761bdaf9d293d9ab4b2d05e", func := "tactus/tactuslaw17.RuleEven", spec := "ruleEven", unfollowed := true, recurses := true, named := ["tactus/item.half"], apart := false, laid := [("tactus/item.half", laid_tactus_item_half)] }
def RuleEvenSaid : Prop := ruleEvenRow.holds Tryz.pinned (OpenSpec.ofChange ruleEvenSpec)

/-- ITS FALSE NEIGHBOUR: 'it returns false'. Refute it at one input. -/
def ruleEvenWrong : ChangeSpec := { name := "ruleEven", fn := fun _ => fun
  | [d1, d2, d3] => { results := [.lit (.bool false)], args := [d1, d2, d3] }
  | _ => none }
def RuleEvenWrongFalsely : Prop := ruleEvenRow.holds Tryz.pinned (OpenSpec.ofChange ruleEvenWrong)

/- THE SECOND FORM. 'bulk': how many values and letters a reading holds, each counted each time it is reached (what is shared counts as often as it is met; a slice's spare places count too). A statement '..UptoSaid' is the law's where the arguments, and the package variables that the reading takes, are together of bulk at most 1048576: NARROWER than '..Said'. Prove '..Said' where nothing that the law and all that it calls make is longer than what came in: it says more and counts as full. Else prove '..UptoSaid'. A law counts once. -/
mutual
def uptoBulk {H : Type} : DataW H → Nat
  | .lit (.string bytes) => bytes.length + 1
  | .lit _ => 1
  | .nil => 1
  | .ptr d => uptoBulk d + 1
  | .slice elems spare => uptoBulkAll elems + uptoBulkAll spare + 1
  | .agg parts => uptoBulkAll parts + 1
  | .iface _ d => uptoBulk d + 1
  | .map entries => uptoBulkEntries entries + 1
  | .held _ => 1
def uptoBulkAll {H : Type} : List (DataW H) → Nat
  | [] => 0
  | d :: r => uptoBulk d + uptoBulkAll r
def uptoBulkEntries {H : Type} : List (Lit × DataW H) → Nat
  | [] => 0
  | x :: r => uptoBulkEntry x + uptoBulkEntries r
def uptoBulkEntry {H : Type} : Lit × DataW H → Nat
  | (.string bytes, d) => bytes.length + uptoBulk d + 1
  | (_, d) => uptoBulk d + 1
 end
def uptoSmall : (H : Type) → List (DataW H) → Bool := fun _ ds => decide (uptoBulkAll ds ≤ 1048576)
def OpenSpec.upto (s : _root_.Go.ChangeSpec) : _root_.Go.OpenSpec := { _root_.Go.OpenSpec.ofChange s with cond := some uptoSmall }

/-- 'tactuslaw13.ItemItems', WHERE WHAT IT READS IS OF BULK AT MOST 1048576: true; the input reads as it did. -/
def itemItemsUptoRow : OpenClaim := { program := "ytmbjfeaipblfcaagreatdoor", sum := "7ccbe036ce8cca8818168214b9d490cc6b04949f1761bdaf9d293d9ab4b2d05e", func := "tactus/tactuslaw13.ItemItems", spec := "itemItems", unfollowed := true, recurses := true, named := ["tactus/item.half"], apart := false, laid := [("tactus/item.half", laid_tactus_item_half)], narrowed := true }
def ItemItemsUptoSaid : Prop := itemItemsUptoRow.holds Tryz.pinned (OpenSpec.upto itemItemsSpec)

/-- 'tactuslaw13.ItemCombos', WHERE WHAT IT READS IS OF BULK AT MOST 1048576: true; the input reads as it did. -/
def itemCombosUptoRow : OpenClaim := { program := "ytmbjfeaipblfcaagreatdoor", sum := "7ccbe036ce8cca8818168214b9d490cc6b04949f1761bdaf9d293d9ab4b2d05e", func := "tactus/tactuslaw13.ItemCombos", spec := "itemCombos", unfollowed := true, recurses := true, named := ["tactus/item.half"], apart := false, laid := [("tactus/item.half", laid_tactus_item_half)], narrowed := true }
def ItemCombosUptoSaid : Prop := itemCombosUptoRow.holds Tryz.pinned (OpenSpec.upto itemCombosSpec)

/-- 'tactuslaw13.ItemFull', WHERE WHAT IT READS IS OF BULK AT MOST 1048576: true; the input reads as it did. -/
def itemFullUptoRow : OpenClaim := { program := "ytmbjfeaipblfcaagreatdoor", sum := "7ccbe036ce8cca8818168214b9d490cc6b04949f1761bdaf9d293d9ab4b2d05e", func := "tactus/tactuslaw13.ItemFull", spec := "itemFull", unfollowed := true, recurses := true, named := ["tactus/item.half"], apart := false, laid := [("tactus/item.half", laid_tactus_item_half)], narrowed := true }
def ItemFullUptoSaid : Prop := itemFullUptoRow.holds Tryz.pinned (OpenSpec.upto itemFullSpec)

/-- 'tactuslaw13.ItemOf', WHERE WHAT IT READS IS OF BULK AT MOST 1048576: true; the input reads as it did. -/
def itemOfUptoRow : OpenClaim := { program := "ytmbjfeaipblfcaagreatdoor", sum := "7ccbe036ce8cca8818168214b9d490cc6b04949f1761bdaf9d293d9ab4b2d05e", func := "tactus/tactuslaw13.ItemOf", spec := "itemOf", unfollowed := true, recurses := true, named := ["tactus/item.half"], apart := false, laid := [("tactus/item.half", laid_tactus_item_half)], narrowed := true }
def ItemOfUptoSaid : Prop := itemOfUptoRow.holds Tryz.pinned (OpenSpec.upto itemOfSpec)

/-- 'tactuslaw13.ItemChanges', WHERE WHAT IT READS IS OF BULK AT MOST 1048576: true; the input reads as it did. -/
def itemChangesUptoRow : OpenClaim := { program := "ytmbjfeaipblfcaagreatdoor", sum := "7ccbe036ce8cca8818168214b9d490cc6b04949f1761bdaf9d293d9ab4b2d05e", func := "tactus/tactuslaw13.ItemChanges", spec := "itemChanges", unfollowed := true, recurses := true, named := ["tactus/item.half"], apart := false, laid := [("tactus/item.half", laid_tactus_item_half)], narrowed := true }
def ItemChangesUptoSaid : Prop := itemChangesUptoRow.holds Tryz.pinned (OpenSpec.upto itemChangesSpec)

/-- 'tactuslaw17.RuleChooses', WHERE WHAT IT READS IS OF BULK AT MOST 1048576: true; the input reads as it did. -/
def ruleChoosesUptoRow : OpenClaim := { program := "ytmbjfeaipblfcaagreatdoor", sum := "7ccbe036ce8cca8818168214b9d490cc6b04949f1761bdaf9d293d9ab4b2d05e", func := "tactus/tactuslaw17.RuleChooses", spec := "ruleChooses", unfollowed := true, recurses := true, named := ["tactus/item.half"], apart := false, laid := [("tactus/item.half", laid_tactus_item_half)], narrowed := true }
def RuleChoosesUptoSaid : Prop := ruleChoosesUptoRow.holds Tryz.pinned (OpenSpec.upto ruleChoosesSpec)

/-- 'tactuslaw17.RuleMade', WHERE WHAT IT READS IS OF BULK AT MOST 1048576: true; the input reads as it did. -/
def ruleMadeUptoRow : OpenClaim := { program := "ytmbjfeaipblfcaagreatdoor", sum := "7ccbe036ce8cca8818168214b9d490cc6b04949f1761bdaf9d293d9ab4b2d05e", func := "tactus/tactuslaw17.RuleMade", spec := "ruleMade", unfollowed := true, recurses := true, named := ["tactus/item.half"], apart := false, laid := [("tactus/item.half", laid_tactus_item_half)], narrowed := true }
def RuleMadeUptoSaid : Prop := ruleMadeUptoRow.holds Tryz.pinned (OpenSpec.upto ruleMadeSpec)

/-- 'tactuslaw17.RuleKnown', WHERE WHAT IT READS IS OF BULK AT MOST 1048576: true; the input reads as it did. -/
def ruleKnownUptoRow : OpenClaim := { program := "ytmbjfeaipblfcaagreatdoor", sum := "7ccbe036ce8cca8818168214b9d490cc6b04949f1761bdaf9d293d9ab4b2d05e", func := "tactus/tactuslaw17.RuleKnown", spec := "ruleKnown", unfollowed := true, recurses := true, named := ["tactus/item.half"], apart := false, laid := [("tactus/item.half", laid_tactus_item_half)], narrowed := true }
def RuleKnownUptoSaid : Prop := ruleKnownUptoRow.holds Tryz.pinned (OpenSpec.upto ruleKnownSpec)

/-- 'tactuslaw17.RuleAllowed', WHERE WHAT IT READS IS OF BULK AT MOST 1048576: true; the input reads as it did. -/
def ruleAllowedUptoRow : OpenClaim := { program := "ytmbjfeaipblfcaagreatdoor", sum := "7ccbe036ce8cca8818168214b9d490cc6b04949f1761bdaf9d293d9ab4b2d05e", func := "tactus/tactuslaw17.RuleAllowed", spec := "ruleAllowed", unfollowed := true, recurses := true, named := ["tactus/item.half"], apart := false, laid := [("tactus/item.half", laid_tactus_item_half)], narrowed := true }
def RuleAllowedUptoSaid : Prop := ruleAllowedUptoRow.holds Tryz.pinned (OpenSpec.upto ruleAllowedSpec)

/-- 'tactuslaw17.RuleSteady', WHERE WHAT IT READS IS OF BULK AT MOST 1048576: true; the input reads as it did. -/
def ruleSteadyUptoRow : OpenClaim := { program := "ytmbjfeaipblfcaagreatdoor", sum := "7ccbe036ce8cca8818168214b9d490cc6b04949f1761bdaf9d293d9ab4b2d05e", func := "tactus/tactuslaw17.RuleSteady", spec := "ruleSteady", unfollowed := true, recurses := true, named := ["tactus/item.half"], apart := false, laid := [("tactus/item.half", laid_tactus_item_half)], narrowed := true }
def RuleSteadyUptoSaid : Prop := ruleSteadyUptoRow.holds Tryz.pinned (OpenSpec.upto ruleSteadySpec)

/-- 'tactuslaw17.RuleReads', WHERE WHAT IT READS IS OF BULK AT MOST 1048576: true; the input reads as it did. -/
def ruleReadsUptoRow : OpenClaim := { program := "ytmbjfeaipblfcaagreatdoor", sum := "7ccbe036ce8cca8818168214b9d490cc6b04949f1761bdaf9d293d9ab4b2d05e", func := "tactus/tactuslaw17.RuleReads", spec := "ruleReads", unfollowed := true, recurses := true, named := ["tactus/item.half"], apart := false, laid := [("tactus/item.half", laid_tactus_item_half)], narrowed := true }
def RuleReadsUptoSaid : Prop := ruleReadsUptoRow.holds Tryz.pinned (OpenSpec.upto ruleReadsSpec)

/-- 'tactuslaw17.RuleEven', WHERE WHAT IT READS IS OF BULK AT MOST 1048576: true; the input reads as it did. -/
def ruleEvenUptoRow : OpenClaim := { program := "ytmbjfeaipblfcaagreatdoor", sum := "7ccbe036ce8cca8818168214b9d490cc6b04949f1761bdaf9d293d9ab4b2d05e", func := "tactus/tactuslaw17.RuleEven", spec := "ruleEven", unfollowed := true, recurses := true, named := ["tactus/item.half"], apart := false, laid := [("tactus/item.half", laid_tactus_item_half)], narrowed := true }
def RuleEvenUptoSaid : Prop := ruleEvenUptoRow.holds Tryz.pinned (OpenSpec.upto ruleEvenSpec)

end Rows
end Go.Proofs.YtmbjfeaipblfcaaGreatDoor
