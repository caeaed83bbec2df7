/-
  NARROWER THAN 'FOR EVERY INPUT', by the rows' own cells (each row's printed sentence says how): WritingsMinimal: laid · WriteIs: laid · WriteWrites: laid · WriteMore: laid · WritingsAll: laid · WritingsUnder: laid · WriteParts: laid · WriteBack: laid.
  DERIVED. THE GIVEN ROWS OF THIS SEAT. 8 by the template 'for every input the law returns true; each argument reads behind the call as it read before'; 0 by the template 'total and deterministic' (their statements: YtbopkhoalndflaaGreatDoorTotals.lean).
  GIVEN WITH THE SEED: the statements are not yours to turn. If you find one false, say at which input.
  Laid BY PROGRAM, IN A SANDBOX (cutbox-rows.mjs): the forced cells as the released guide's own fill.sh prints them over the translation 0ced45c361acd273… (all of the seat's roots in one cut). By AI agents, Wed Nov 11 2026. No macro, syntax, notation, axiom, sorry.
-/
import Derived.Test.YtbopkhoalndflaaGreatDoorChecked
import GoSem.Claim
import GoSem.ClaimJoined
import GoSem.ClaimMapViews
import Derived.JoinedTies
import Derived.KernelRfl
namespace Go.Proofs.YtbopkhoalndflaaGreatDoor
/- THE CELL 'sum', in the pinned program and in every row, IS THE sha256 OF THE DUMP (.gsa) THAT YtbopkhoalndflaaGreatDoorProg.lean LOADS. Nothing in Lean hashes anything: it is a label: what it is worth is what the hold of that sum in a sandbox is worth. -/
noncomputable def Tryz.pinned : Pinned := { name := "ytbopkhoalndflaagreatdoor", sum := "0ced45c361acd273362dd16d75f81ff63a5f0a0b2474d3525198699bee778f5f", checked := Tryz.checked }
namespace Rows
def none {H : Type} : Left H := { results := [], args := [] }

/- WHAT THE LISTED PACKAGE-LEVEL VARIABLES READ AS WHEN THE CALL BEGINS. Each datum BY PROGRAM (the guide's laid-datum.mjs) off the statement by which the dump's own 'gosem.cut.vars' lays the variable. In a bare row this is a premise. The card (YtbopkhoalndflaaGreatDoorCards.lean) ties it to the program's text. -/
def laid_tactus_item_half {H : Type} : DataW H := .agg [.lit (.int .i64 3), .lit (.int .i64 2)]
def laid_tactus_sign_uses {H : Type} : DataW H := .agg [.agg [.lit (.bool false), .lit (.bool false), .lit (.bool false), .lit (.bool false), .lit (.bool false), .lit (.bool false), .lit (.bool false), .lit (.bool false), .lit (.bool false), .lit (.bool false), .lit (.bool false), .lit (.bool false)], .agg [.lit (.bool true), .lit (.bool true), .lit (.bool true), .lit (.bool true), .lit (.bool false), .lit (.bool false), .lit (.bool false), .lit (.bool false), .lit (.bool false), .lit (.bool false), .lit (.bool false), .lit (.bool false)], .agg [.lit (.bool true), .lit (.bool false), .lit (.bool false), .lit (.bool false), .lit (.bool false), .lit (.bool false), .lit (.bool false), .lit (.bool false), .lit (.bool false), .lit (.bool false), .lit (.bool false), .lit (.bool false)], .agg [.lit (.bool false), .lit (.bool false), .lit (.bool false), .lit (.bool false), .lit (.bool false), .lit (.bool false), .lit (.bool false), .lit (.bool false), .lit (.bool false), .lit (.bool false), .lit (.bool false), .lit (.bool false)], .agg [.lit (.bool false), .lit (.bool true), .lit (.bool true), .lit (.bool true), .lit (.bool true), .lit (.bool true), .lit (.bool true), .lit (.bool false), .lit (.bool false), .lit (.bool false), .lit (.bool false), .lit (.bool false)], .agg [.lit (.bool false), .lit (.bool false), .lit (.bool false), .lit (.bool false), .lit (.bool false), .lit (.bool false), .lit (.bool false), .lit (.bool true), .lit (.bool true), .lit (.bool false), .lit (.bool false), .lit (.bool false)], .agg [.lit (.bool false), .lit (.bool false), .lit (.bool false), .lit (.bool false), .lit (.bool false), .lit (.bool false), .lit (.bool false), .lit (.bool false), .lit (.bool false), .lit (.bool true), .lit (.bool true), .lit (.bool false)], .agg [.lit (.bool false), .lit (.bool false), .lit (.bool false), .lit (.bool false), .lit (.bool false), .lit (.bool false), .lit (.bool false), .lit (.bool false), .lit (.bool false), .lit (.bool false), .lit (.bool false), .lit (.bool true)], .agg [.lit (.bool false), .lit (.bool false), .lit (.bool false), .lit (.bool false), .lit (.bool false), .lit (.bool false), .lit (.bool false), .lit (.bool false), .lit (.bool false), .lit (.bool true), .lit (.bool false), .lit (.bool false)], .agg [.lit (.bool false), .lit (.bool false), .lit (.bool false), .lit (.bool false), .lit (.bool false), .lit (.bool false), .lit (.bool false), .lit (.bool false), .lit (.bool false), .lit (.bool false), .lit (.bool false), .lit (.bool false)], .agg [.lit (.bool false), .lit (.bool false), .lit (.bool false), .lit (.bool false), .lit (.bool false), .lit (.bool false), .lit (.bool false), .lit (.bool false), .lit (.bool false), .lit (.bool true), .lit (.bool false), .lit (.bool false)], .agg [.lit (.bool false), .lit (.bool false), .lit (.bool false), .lit (.bool false), .lit (.bool false), .lit (.bool false), .lit (.bool false), .lit (.bool false), .lit (.bool false), .lit (.bool false), .lit (.bool false), .lit (.bool false)], .agg [.lit (.bool false), .lit (.bool false), .lit (.bool false), .lit (.bool false), .lit (.bool false), .lit (.bool false), .lit (.bool false), .lit (.bool false), .lit (.bool false), .lit (.bool false), .lit (.bool false), .lit (.bool false)]]
def laid_tactus_sign_classes {H : Type} : DataW H := .agg [.lit (.int .i64 0), .lit (.int .i64 1), .lit (.int .i64 1), .lit (.int .i64 2), .lit (.int .i64 1), .lit (.int .i64 3), .lit (.int .i64 3), .lit (.int .i64 4), .lit (.int .i64 4), .lit (.int .i64 3), .lit (.int .i64 3), .lit (.int .i64 4), .lit (.int .i64 4)]

/-- 'tactuslaw24.WritingsMinimal': WHATEVER THE INPUT: true; the input reads as it did. -/
def writingsMinimalSpec : ChangeSpec := { name := "writingsMinimal", fn := fun _ => fun
  | [d1, d2] => { results := [.lit (.bool true)], args := [d1, d2] }
  | _ => none }
def writingsMinimalRow : OpenClaim := { program := "ytbopkhoalndflaagreatdoor", sum := "0ced45c361acd273362dd16d75f81ff63a5f0a0b2474d3525198699bee778f5f", func := "tactus/tactuslaw24.WritingsMinimal", spec := "writingsMinimal", unfollowed := true, recurses := true, named := ["tactus/item.half"], plainKeys := false, apart := false, laid := [("tactus/item.half", laid_tactus_item_half)] }
def WritingsMinimalSaid : Prop := writingsMinimalRow.holds Tryz.pinned (OpenSpec.ofChange writingsMinimalSpec)

/-- ITS FALSE NEIGHBOUR: 'it returns false'. Refute it at one input. -/
def writingsMinimalWrong : ChangeSpec := { name := "writingsMinimal", fn := fun _ => fun
  | [d1, d2] => { results := [.lit (.bool false)], args := [d1, d2] }
  | _ => none }
def WritingsMinimalWrongFalsely : Prop := writingsMinimalRow.holds Tryz.pinned (OpenSpec.ofChange writingsMinimalWrong)

/-- 'tactuslaw23.WriteIs': WHATEVER THE INPUT: true; the input reads as it did. -/
def writeIsSpec : ChangeSpec := { name := "writeIs", fn := fun _ => fun
  | [d1, d2, d3, d4] => { results := [.lit (.bool true)], args := [d1, d2, d3, d4] }
  | _ => none }
def writeIsRow : OpenClaim := { program := "ytbopkhoalndflaagreatdoor", sum := "0ced45c361acd273362dd16d75f81ff63a5f0a0b2474d3525198699bee778f5f", func := "tactus/tactuslaw23.WriteIs", spec := "writeIs", unfollowed := true, recurses := true, named := ["tactus/item.half"], plainKeys := false, apart := false, laid := [("tactus/item.half", laid_tactus_item_half)] }
def WriteIsSaid : Prop := writeIsRow.holds Tryz.pinned (OpenSpec.ofChange writeIsSpec)

/-- ITS FALSE NEIGHBOUR: 'it returns false'. Refute it at one input. -/
def writeIsWrong : ChangeSpec := { name := "writeIs", fn := fun _ => fun
  | [d1, d2, d3, d4] => { results := [.lit (.bool false)], args := [d1, d2, d3, d4] }
  | _ => none }
def WriteIsWrongFalsely : Prop := writeIsRow.holds Tryz.pinned (OpenSpec.ofChange writeIsWrong)

/-- 'tactuslaw23.WriteWrites': WHATEVER THE INPUT: true; the input reads as it did. -/
def writeWritesSpec : ChangeSpec := { name := "writeWrites", fn := fun _ => fun
  | [d1, d2, d3] => { results := [.lit (.bool true)], args := [d1, d2, d3] }
  | _ => none }
def writeWritesRow : OpenClaim := { program := "ytbopkhoalndflaagreatdoor", sum := "0ced45c361acd273362dd16d75f81ff63a5f0a0b2474d3525198699bee778f5f", func := "tactus/tactuslaw23.WriteWrites", spec := "writeWrites", unfollowed := true, recurses := true, named := ["tactus/item.half"], plainKeys := false, apart := false, laid := [("tactus/item.half", laid_tactus_item_half)] }
def WriteWritesSaid : Prop := writeWritesRow.holds Tryz.pinned (OpenSpec.ofChange writeWritesSpec)

/-- ITS FALSE NEIGHBOUR: 'it returns false'. Refute it at one input. -/
def writeWritesWrong : ChangeSpec := { name := "writeWrites", fn := fun _ => fun
  | [d1, d2, d3] => { results := [.lit (.bool false)], args := [d1, d2, d3] }
  | _ => none }
def WriteWritesWrongFalsely : Prop := writeWritesRow.holds Tryz.pinned (OpenSpec.ofChange writeWritesWrong)

/-- 'tactuslaw23.WriteMore': WHATEVER THE INPUT: true; the input reads as it did. -/
def writeMoreSpec : ChangeSpec := { name := "writeMore", fn := fun _ => fun
  | [d1, d2, d3] => { results := [.lit (.bool true)], args := [d1, d2, d3] }
  | _ => none }
def writeMoreRow : OpenClaim := { program := "ytbopkhoalndflaagreatdoor", sum := "0ced45c361acd273362dd16d75f81ff63a5f0a0b2474d3525198699bee778f5f", func := "tactus/tactuslaw23.WriteMore", spec := "writeMore", unfollowed := true, recurses := true, named := ["tactus/item.half"], plainKeys := false, apart := false, laid := [("tactus/item.half", laid_tactus_item_half)] }
def WriteMoreSaid : Prop := writeMoreRow.holds Tryz.pinned (OpenSpec.ofChange writeMoreSpec)

/-- ITS FALSE NEIGHBOUR: 'it returns false'. Refute it at one input. -/
def writeMoreWrong : ChangeSpec := { name := "writeMore", fn := fun _ => fun
  | [d1, d2, d3] => { results := [.lit (.bool false)], args := [d1, d2, d3] }
  | _ => none }
def WriteMoreWrongFalsely : Prop := writeMoreRow.holds Tryz.pinned (OpenSpec.ofChange writeMoreWrong)

/-- 'tactuslaw24.WritingsAll': WHATEVER THE INPUT: true; the input reads as it did. -/
def writingsAllSpec : ChangeSpec := { name := "writingsAll", fn := fun _ => fun
  | [d1, d2, d3] => { results := [.lit (.bool true)], args := [d1, d2, d3] }
  | _ => none }
def writingsAllRow : OpenClaim := { program := "ytbopkhoalndflaagreatdoor", sum := "0ced45c361acd273362dd16d75f81ff63a5f0a0b2474d3525198699bee778f5f", func := "tactus/tactuslaw24.WritingsAll", spec := "writingsAll", unfollowed := true, recurses := true, named := ["tactus/item.half"], plainKeys := false, apart := false, laid := [("tactus/item.half", laid_tactus_item_half)] }
def WritingsAllSaid : Prop := writingsAllRow.holds Tryz.pinned (OpenSpec.ofChange writingsAllSpec)

/-- ITS FALSE NEIGHBOUR: 'it returns false'. Refute it at one input. -/
def writingsAllWrong : ChangeSpec := { name := "writingsAll", fn := fun _ => fun
  | [d1, d2, d3] => { results := [.lit (.bool false)], args := [d1, d2, d3] }
  | _ => none }
def WritingsAllWrongFalsely : Prop := writingsAllRow.holds Tryz.pinned (OpenSpec.ofChange writingsAllWrong)

/-- 'tactuslaw24.WritingsUnder': WHATEVER THE INPUT: true; the input reads as it did. -/
def writingsUnderSpec : ChangeSpec := { name := "writingsUnder", fn := fun _ => fun
  | [d1, d2, d3, d4, d5] => { results := [.lit (.bool true)], args := [d1, d2, d3, d4, d5] }
  | _ => none }
def writingsUnderRow : OpenClaim := { program := "ytbopkhoalndflaagreatdoor", sum := "0ced45c361acd273362dd16d75f81ff63a5f0a0b2474d3525198699bee778f5f", func := "tactus/tactuslaw24.WritingsUnder", spec := "writingsUnder", unfollowed := true, recurses := true, named := ["tactus/item.half"], plainKeys := false, apart := false, laid := [("tactus/item.half", laid_tactus_item_half)] }
def WritingsUnderSaid : Prop := writingsUnderRow.holds Tryz.pinned (OpenSpec.ofChange writingsUnderSpec)

/-- ITS FALSE NEIGHBOUR: 'it returns false'. Refute it at one input. -/
def writingsUnderWrong : ChangeSpec := { name := "writingsUnder", fn := fun _ => fun
  | [d1, d2, d3, d4, d5] => { results := [.lit (.bool false)], args := [d1, d2, d3, d4, d5] }
  | _ => none }
def WritingsUnderWrongFalsely : Prop := writingsUnderRow.holds Tryz.pinned (OpenSpec.ofChange writingsUnderWrong)

/-- 'tactuslaw23.WriteParts': WHATEVER THE INPUT: true; the input reads as it did. -/
def writePartsSpec : ChangeSpec := { name := "writeParts", fn := fun _ => fun
  | [d1, d2, d3, d4] => { results := [.lit (.bool true)], args := [d1, d2, d3, d4] }
  | _ => none }
def writePartsRow : OpenClaim := { program := "ytbopkhoalndflaagreatdoor", sum := "0ced45c361acd273362dd16d75f81ff63a5f0a0b2474d3525198699bee778f5f", func := "tactus/tactuslaw23.WriteParts", spec := "writeParts", unfollowed := true, recurses := true, named := ["tactus/item.half"], plainKeys := false, apart := false, laid := [("tactus/item.half", laid_tactus_item_half)] }
def WritePartsSaid : Prop := writePartsRow.holds Tryz.pinned (OpenSpec.ofChange writePartsSpec)

/-- ITS FALSE NEIGHBOUR: 'it returns false'. Refute it at one input. -/
def writePartsWrong : ChangeSpec := { name := "writeParts", fn := fun _ => fun
  | [d1, d2, d3, d4] => { results := [.lit (.bool false)], args := [d1, d2, d3, d4] }
  | _ => none }
def WritePartsWrongFalsely : Prop := writePartsRow.holds Tryz.pinned (OpenSpec.ofChange writePartsWrong)

/-- 'tactuslaw23.WriteBack': WHATEVER THE INPUT: true; the input reads as it did. -/
def writeBackSpec : ChangeSpec := { name := "writeBack", fn := fun _ => fun
  | [d1, d2, d3] => { results := [.lit (.bool true)], args := [d1, d2, d3] }
  | _ => none }
def writeBackRow : OpenClaim := { program := "ytbopkhoalndflaagreatdoor", sum := "0ced45c361acd273362dd16d75f81ff63a5f0a0b2474d3525198699bee778f5f", func := "tactus/tactuslaw23.WriteBack", spec := "writeBack", unfollowed := true, recurses := true, named := ["tactus/item.half", "tactus/sign.uses", "tactus/sign.classes"], plainKeys := false, apart := false, laid := [("tactus/item.half", laid_tactus_item_half), ("tactus/sign.uses", laid_tactus_sign_uses), ("tactus/sign.classes", laid_tactus_sign_classes)] }
def WriteBackSaid : Prop := writeBackRow.holds Tryz.pinned (OpenSpec.ofChange writeBackSpec)

/-- ITS FALSE NEIGHBOUR: 'it returns false'. Refute it at one input. -/
def writeBackWrong : ChangeSpec := { name := "writeBack", fn := fun _ => fun
  | [d1, d2, d3] => { results := [.lit (.bool false)], args := [d1, d2, d3] }
  | _ => none }
def WriteBackWrongFalsely : Prop := writeBackRow.holds Tryz.pinned (OpenSpec.ofChange writeBackWrong)

/- THE SECOND FORM. 'bulk': how many values and letters a reading holds, each counted each time it is reached (what is shared counts as often as it is met; a slice's spare places count too). A statement '..UptoSaid' is the law's where the arguments, and the package variables that the reading takes, are together of bulk at most 1048576: NARROWER than '..Said'. Prove '..Said' where nothing that the law and all that it calls make is longer than what came in: it says more and counts as full. Else prove '..UptoSaid'. A law counts once. -/
mutual
def uptoBulk {H : Type} : DataW H → Nat
  | .lit (.string bytes) => bytes.length + 1
  | .lit _ => 1
  | .nil => 1
  | .ptr d => uptoBulk d + 1
  | .slice elems spare => uptoBulkAll elems + uptoBulkAll spare + 1
  | .agg parts => uptoBulkAll parts + 1
  | .iface _ d => uptoBulk d + 1
  | .map entries => uptoBulkEntries entries + 1
  | .held _ => 1
def uptoBulkAll {H : Type} : List (DataW H) → Nat
  | [] => 0
  | d :: r => uptoBulk d + uptoBulkAll r
def uptoBulkEntries {H : Type} : List (Lit × DataW H) → Nat
  | [] => 0
  | x :: r => uptoBulkEntry x + uptoBulkEntries r
def uptoBulkEntry {H : Type} : Lit × DataW H → Nat
  | (.string bytes, d) => bytes.length + uptoBulk d + 1
  | (_, d) => uptoBulk d + 1
 end
def uptoSmall : (H : Type) → List (DataW H) → Bool := fun _ ds => decide (uptoBulkAll ds ≤ 1048576)
def OpenSpec.upto (s : _root_.Go.ChangeSpec) : _root_.Go.OpenSpec := { _root_.Go.OpenSpec.ofChange s with cond := some uptoSmall }

/-- 'tactuslaw24.WritingsMinimal', WHERE WHAT IT READS IS OF BULK AT MOST 1048576: true; the input reads as it did. -/
def writingsMinimalUptoRow : OpenClaim := { program := "ytbopkhoalndflaagreatdoor", sum := "0ced45c361acd273362dd16d75f81ff63a5f0a0b2474d3525198699bee778f5f", func := "tactus/tactuslaw24.WritingsMinimal", spec := "writingsMinimal", unfollowed := true, recurses := true, named := ["tactus/item.half"], plainKeys := false, apart := false, laid := [("tactus/item.half", laid_tactus_item_half)], narrowed := true }
def WritingsMinimalUptoSaid : Prop := writingsMinimalUptoRow.holds Tryz.pinned (OpenSpec.upto writingsMinimalSpec)

/-- 'tactuslaw23.WriteIs', WHERE WHAT IT READS IS OF BULK AT MOST 1048576: true; the input reads as it did. -/
def writeIsUptoRow : OpenClaim := { program := "ytbopkhoalndflaagreatdoor", sum := "0ced45c361acd273362dd16d75f81ff63a5f0a0b2474d3525198699bee778f5f", func := "tactus/tactuslaw23.WriteIs", spec := "writeIs", unfollowed := true, recurses := true, named := ["tactus/item.half"], plainKeys := false, apart := false, laid := [("tactus/item.half", laid_tactus_item_half)], narrowed := true }
def WriteIsUptoSaid : Prop := writeIsUptoRow.holds Tryz.pinned (OpenSpec.upto writeIsSpec)

/-- 'tactuslaw23.WriteWrites', WHERE WHAT IT READS IS OF BULK AT MOST 1048576: true; the input reads as it did. -/
def writeWritesUptoRow : OpenClaim := { program := "ytbopkhoalndflaagreatdoor", sum := "0ced45c361acd273362dd16d75f81ff63a5f0a0b2474d3525198699bee778f5f", func := "tactus/tactuslaw23.WriteWrites", spec := "writeWrites", unfollowed := true, recurses := true, named := ["tactus/item.half"], plainKeys := false, apart := false, laid := [("tactus/item.half", laid_tactus_item_half)], narrowed := true }
def WriteWritesUptoSaid : Prop := writeWritesUptoRow.holds Tryz.pinned (OpenSpec.upto writeWritesSpec)

/-- 'tactuslaw23.WriteMore', WHERE WHAT IT READS IS OF BULK AT MOST 1048576: true; the input reads as it did. -/
def writeMoreUptoRow : OpenClaim := { program := "ytbopkhoalndflaagreatdoor", sum := "0ced45c361acd273362dd16d75f81ff63a5f0a0b2474d3525198699bee778f5f", func := "tactus/tactuslaw23.WriteMore", spec := "writeMore", unfollowed := true, recurses := true, named := ["tactus/item.half"], plainKeys := false, apart := false, laid := [("tactus/item.half", laid_tactus_item_half)], narrowed := true }
def WriteMoreUptoSaid : Prop := writeMoreUptoRow.holds Tryz.pinned (OpenSpec.upto writeMoreSpec)

/-- 'tactuslaw24.WritingsAll', WHERE WHAT IT READS IS OF BULK AT MOST 1048576: true; the input reads as it did. -/
def writingsAllUptoRow : OpenClaim := { program := "ytbopkhoalndflaagreatdoor", sum := "0ced45c361acd273362dd16d75f81ff63a5f0a0b2474d3525198699bee778f5f", func := "tactus/tactuslaw24.WritingsAll", spec := "writingsAll", unfollowed := true, recurses := true, named := ["tactus/item.half"], plainKeys := false, apart := false, laid := [("tactus/item.half", laid_tactus_item_half)], narrowed := true }
def WritingsAllUptoSaid : Prop := writingsAllUptoRow.holds Tryz.pinned (OpenSpec.upto writingsAllSpec)

/-- 'tactuslaw24.WritingsUnder', WHERE WHAT IT READS IS OF BULK AT MOST 1048576: true; the input reads as it did. -/
def writingsUnderUptoRow : OpenClaim := { program := "ytbopkhoalndflaagreatdoor", sum := "0ced45c361acd273362dd16d75f81ff63a5f0a0b2474d3525198699bee778f5f", func := "tactus/tactuslaw24.WritingsUnder", spec := "writingsUnder", unfollowed := true, recurses := true, named := ["tactus/item.half"], plainKeys := false, apart := false, laid := [("tactus/item.half", laid_tactus_item_half)], narrowed := true }
def WritingsUnderUptoSaid : Prop := writingsUnderUptoRow.holds Tryz.pinned (OpenSpec.upto writingsUnderSpec)

/-- 'tactuslaw23.WriteParts', WHERE WHAT IT READS IS OF BULK AT MOST 1048576: true; the input reads as it did. -/
def writePartsUptoRow : OpenClaim := { program := "ytbopkhoalndflaagreatdoor", sum := "0ced45c361acd273362dd16d75f81ff63a5f0a0b2474d3525198699bee778f5f", func := "tactus/tactuslaw23.WriteParts", spec := "writeParts", unfollowed := true, recurses := true, named := ["tactus/item.half"], plainKeys := false, apart := false, laid := [("tactus/item.half", laid_tactus_item_half)], narrowed := true }
def WritePartsUptoSaid : Prop := writePartsUptoRow.holds Tryz.pinned (OpenSpec.upto writePartsSpec)

/-- 'tactuslaw23.WriteBack', WHERE WHAT IT READS IS OF BULK AT MOST 1048576: true; the input reads as it did. -/
def writeBackUptoRow : OpenClaim := { program := "ytbopkhoalndflaagreatdoor", sum := "0ced45c361acd273362dd16d75f81ff63a5f0a0b2474d3525198699bee778f5f", func := "tactus/tactuslaw23.WriteBack", spec := "writeBack", unfollowed := true, recurses := true, named := ["tactus/item.half", "tactus/sign.uses", "tactus/sign.classes"], plainKeys := false, apart := false, laid := [("tactus/item.half", laid_tactus_item_half), ("tactus/sign.uses", laid_tactus_sign_uses), ("tactus/sign.classes", laid_tactus_sign_classes)], narrowed := true }
def WriteBackUptoSaid : Prop := writeBackUptoRow.holds Tryz.pinned (OpenSpec.upto writeBackSpec)

end Rows
end Go.Proofs.YtbopkhoalndflaaGreatDoor
