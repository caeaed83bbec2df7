/-
  Closed facts on the types, fields and functions of the translation: printed by program (genty.py).
-/
import Derived.Test.YtmbjfeaipblfcaaDoorProg
import Derived.Test.YtmbjfeaipblfcaaDoorLogA
import Derived.KernelRfl
namespace Go.Rse
open Go Go.Proofs
theorem ty3 : tyOk Tryd.prog 3 false 1 = true := by kernel_rfl
theorem ty4 : tyOk Tryd.prog 4 false 1 = true := by kernel_rfl
theorem ty26 : tyOk Tryd.prog 26 true 2 = true := by kernel_rfl
theorem ty27 : tyOk Tryd.prog 27 false 1 = true := by kernel_rfl
theorem ty31 : tyOk Tryd.prog 31 false 1 = true := by kernel_rfl
theorem ty34 : tyOk Tryd.prog 34 true 4 = true := by kernel_rfl
theorem ty38 : tyOk Tryd.prog 38 true 17 = true := by kernel_rfl
theorem ty42 : tyOk Tryd.prog 42 false 1 = true := by kernel_rfl
theorem ty49 : tyOk Tryd.prog 49 true 12 = true := by kernel_rfl
theorem ty57 : tyOk Tryd.prog 57 false 1 = true := by kernel_rfl
theorem ty74 : tyOk Tryd.prog 74 false 1 = true := by kernel_rfl
theorem ty92 : tyOk Tryd.prog 92 true 4 = true := by kernel_rfl
theorem ty95 : tyOk Tryd.prog 95 false 1 = true := by kernel_rfl
theorem ty102 : tyOk Tryd.prog 102 false 1 = true := by kernel_rfl
theorem ty136 : tyOk Tryd.prog 136 false 1 = true := by kernel_rfl
theorem us3 : (Program.underlying Tryd.prog 3).isSome = true := by kernel_rfl
theorem us5 : (Program.underlying Tryd.prog 5).isSome = true := by kernel_rfl
theorem us108 : (Program.underlying Tryd.prog 108).isSome = true := by kernel_rfl
theorem us133 : (Program.underlying Tryd.prog 133).isSome = true := by kernel_rfl
theorem us135 : (Program.underlying Tryd.prog 135).isSome = true := by kernel_rfl
theorem un3 : Program.underlying Tryd.prog 3 = some (.int .i64) := by kernel_rfl
theorem un5 : Program.underlying Tryd.prog 5 = some (.int .u8) := by kernel_rfl
theorem un108 : Program.underlying Tryd.prog 108 = some (.int .u64) := by kernel_rfl
theorem un133 : Program.underlying Tryd.prog 133 = some (.int .u32) := by kernel_rfl
theorem un136 : Program.underlying Tryd.prog 136 = some (.int .u64) := by kernel_rfl
theorem ze3 : (Tryd.prog.info? 3).bind (·.zero) = some (.int .i64 0) := by kernel_rfl
theorem zc3 : zCells Tryd.prog 3 [.int .i64 0] := ⟨_, ze3, rfl⟩
theorem ze4 : (Tryd.prog.info? 4).bind (·.zero) = some (.bool false) := by kernel_rfl
theorem zc4 : zCells Tryd.prog 4 [.bool false] := ⟨_, ze4, rfl⟩
theorem ze26 : (Tryd.prog.info? 26).bind (·.zero) = some (.agg #[.int .i64 0, .int .i64 0]) := by kernel_rfl
theorem zc26 : zCells Tryd.prog 26 [.int .i64 0, .int .i64 0] := ⟨_, ze26, rfl⟩
theorem ze27 : (Tryd.prog.info? 27).bind (·.zero) = some (.int .i64 0) := by kernel_rfl
theorem zc27 : zCells Tryd.prog 27 [.int .i64 0] := ⟨_, ze27, rfl⟩
theorem ze31 : (Tryd.prog.info? 31).bind (·.zero) = some (.slice none 0 0) := by kernel_rfl
theorem zc31 : zCells Tryd.prog 31 [.nils] := ⟨_, ze31, rfl⟩
theorem ze34 : (Tryd.prog.info? 34).bind (·.zero) = some (.agg #[.int .i64 0, .int .i64 0, .int .i64 0, .int .i64 0]) := by kernel_rfl
theorem zc34 : zCells Tryd.prog 34 [.int .i64 0, .int .i64 0, .int .i64 0, .int .i64 0] := ⟨_, ze34, rfl⟩
theorem ze38 : (Tryd.prog.info? 38).bind (·.zero) = some (.agg #[.int .i64 0, .int .i64 0, .int .i64 0, .int .i64 0, .bool false, .int .i64 0, .bool false, .bool false, .int .i64 0, .int .i64 0, .int .i64 0, .int .i64 0, .bool false, .int .i64 0, .int .i64 0, .int .i64 0, .int .i64 0]) := by kernel_rfl
theorem zc38 : zCells Tryd.prog 38 [.int .i64 0, .int .i64 0, .int .i64 0, .int .i64 0, .bool false, .int .i64 0, .bool false, .bool false, .int .i64 0, .int .i64 0, .int .i64 0, .int .i64 0, .bool false, .int .i64 0, .int .i64 0, .int .i64 0, .int .i64 0] := ⟨_, ze38, rfl⟩
theorem ze42 : (Tryd.prog.info? 42).bind (·.zero) = some (.slice none 0 0) := by kernel_rfl
theorem zc42 : zCells Tryd.prog 42 [.nils] := ⟨_, ze42, rfl⟩
theorem ze49 : (Tryd.prog.info? 49).bind (·.zero) = some (.agg #[.int .i64 0, .int .i64 0, .bool false, .bool false, .bool false, .int .i64 0, .int .i64 0, .int .i64 0, .int .i64 0, .int .i64 0, .int .i64 0, .int .i64 0]) := by kernel_rfl
theorem zc49 : zCells Tryd.prog 49 [.int .i64 0, .int .i64 0, .bool false, .bool false, .bool false, .int .i64 0, .int .i64 0, .int .i64 0, .int .i64 0, .int .i64 0, .int .i64 0, .int .i64 0] := ⟨_, ze49, rfl⟩
theorem ze57 : (Tryd.prog.info? 57).bind (·.zero) = some (.slice none 0 0) := by kernel_rfl
theorem zc57 : zCells Tryd.prog 57 [.nils] := ⟨_, ze57, rfl⟩
theorem ze74 : (Tryd.prog.info? 74).bind (·.zero) = some (.slice none 0 0) := by kernel_rfl
theorem zc74 : zCells Tryd.prog 74 [.nils] := ⟨_, ze74, rfl⟩
theorem ze92 : (Tryd.prog.info? 92).bind (·.zero) = some (.agg #[.int .i64 0, .int .i64 0, .int .i64 0, .int .i64 0]) := by kernel_rfl
theorem zc92 : zCells Tryd.prog 92 [.int .i64 0, .int .i64 0, .int .i64 0, .int .i64 0] := ⟨_, ze92, rfl⟩
theorem ze95 : (Tryd.prog.info? 95).bind (·.zero) = some (.nilFunc) := by kernel_rfl
theorem zc95 : zCells Tryd.prog 95 [.nilf] := ⟨_, ze95, rfl⟩
theorem ze102 : (Tryd.prog.info? 102).bind (·.zero) = some (.nilFunc) := by kernel_rfl
theorem zc102 : zCells Tryd.prog 102 [.nilf] := ⟨_, ze102, rfl⟩
theorem ze136 : (Tryd.prog.info? 136).bind (·.zero) = some (.int .u64 0) := by kernel_rfl
theorem zc136 : zCells Tryd.prog 136 [.int .u64 0] := ⟨_, ze136, rfl⟩
theorem ti3 : TyInfo Tryd.prog 3 (.int .i64 0) 1 8 := tyInfo_of (by kernel_rfl) rfl
theorem ti4 : TyInfo Tryd.prog 4 (.bool false) 1 1 := tyInfo_of (by kernel_rfl) rfl
theorem ti26 : TyInfo Tryd.prog 26 (.agg #[.int .i64 0, .int .i64 0]) 2 16 := tyInfo_of (by kernel_rfl) rfl
theorem ti38 : TyInfo Tryd.prog 38 (.agg #[.int .i64 0, .int .i64 0, .int .i64 0, .int .i64 0, .bool false, .int .i64 0, .bool false, .bool false, .int .i64 0, .int .i64 0, .int .i64 0, .int .i64 0, .bool false, .int .i64 0, .int .i64 0, .int .i64 0, .int .i64 0]) 17 128 := tyInfo_of (by kernel_rfl) rfl
theorem ti42 : TyInfo Tryd.prog 42 (.slice none 0 0) 1 24 := tyInfo_of (by kernel_rfl) rfl
theorem ti49 : TyInfo Tryd.prog 49 (.agg #[.int .i64 0, .int .i64 0, .bool false, .bool false, .bool false, .int .i64 0, .int .i64 0, .int .i64 0, .int .i64 0, .int .i64 0, .int .i64 0, .int .i64 0]) 12 80 := tyInfo_of (by kernel_rfl) rfl
theorem sl22 : slOk Tryd.prog 22 49 = true := by kernel_rfl
theorem sl31 : slOk Tryd.prog 31 38 = true := by kernel_rfl
theorem sl42 : slOk Tryd.prog 42 3 = true := by kernel_rfl
theorem sl52 : slOk Tryd.prog 52 26 = true := by kernel_rfl
theorem sl57 : slOk Tryd.prog 57 4 = true := by kernel_rfl
theorem sl74 : slOk Tryd.prog 74 42 = true := by kernel_rfl
theorem fo26_0 : fldOk Tryd.prog 26 0 0 = true := by kernel_rfl
theorem fo26_1 : fldOk Tryd.prog 26 1 1 = true := by kernel_rfl
theorem fo34_0 : fldOk Tryd.prog 34 0 0 = true := by kernel_rfl
theorem fo34_1 : fldOk Tryd.prog 34 1 1 = true := by kernel_rfl
theorem fo34_2 : fldOk Tryd.prog 34 2 2 = true := by kernel_rfl
theorem fo34_3 : fldOk Tryd.prog 34 3 3 = true := by kernel_rfl
theorem fo38_0 : fldOk Tryd.prog 38 0 0 = true := by kernel_rfl
theorem fo38_1 : fldOk Tryd.prog 38 1 1 = true := by kernel_rfl
theorem fo38_4 : fldOk Tryd.prog 38 4 4 = true := by kernel_rfl
theorem fo49_0 : fldOk Tryd.prog 49 0 0 = true := by kernel_rfl
theorem fo49_1 : fldOk Tryd.prog 49 1 1 = true := by kernel_rfl
theorem fo49_2 : fldOk Tryd.prog 49 2 2 = true := by kernel_rfl
theorem fo49_3 : fldOk Tryd.prog 49 3 3 = true := by kernel_rfl
theorem fo49_4 : fldOk Tryd.prog 49 4 4 = true := by kernel_rfl
theorem fo49_5 : fldOk Tryd.prog 49 5 5 = true := by kernel_rfl
theorem fo49_6 : fldOk Tryd.prog 49 6 6 = true := by kernel_rfl
theorem fo49_7 : fldOk Tryd.prog 49 7 8 = true := by kernel_rfl
theorem fo49_8 : fldOk Tryd.prog 49 8 10 = true := by kernel_rfl
theorem pl26 : places Tryd.prog 26 = some [(0, 1), (1, 1)] := by kernel_rfl
theorem ia26 : infoAll Tryd.prog 26 = true := by kernel_rfl
theorem pl34 : places Tryd.prog 34 = some [(0, 1), (1, 1), (2, 1), (3, 1)] := by kernel_rfl
theorem ia34 : infoAll Tryd.prog 34 = true := by kernel_rfl
theorem pl38 : places Tryd.prog 38 = some [(0, 1), (1, 1), (2, 1), (3, 1), (4, 1), (5, 1), (6, 1), (7, 1), (8, 4), (12, 1), (13, 1), (14, 1), (15, 2)] := by kernel_rfl
theorem ia38 : infoAll Tryd.prog 38 = true := by kernel_rfl
theorem pl49 : places Tryd.prog 49 = some [(0, 1), (1, 1), (2, 1), (3, 1), (4, 1), (5, 1), (6, 2), (8, 2), (10, 2)] := by kernel_rfl
theorem ia49 : infoAll Tryd.prog 49 = true := by kernel_rfl
theorem ar92 : arrOk Tryd.prog 92 4 3 = true := by kernel_rfl
theorem eqo3 : (eqOk Tryd.prog 5 3 && decide (5 ≤ 10000)) = true := by kernel_rfl
theorem fl3 : flat Tryd.prog 5 3 = [1] := by kernel_rfl
theorem eqo4 : (eqOk Tryd.prog 5 4 && decide (5 ≤ 10000)) = true := by kernel_rfl
theorem fl4 : flat Tryd.prog 5 4 = [2] := by kernel_rfl
theorem eqo8 : (eqOk Tryd.prog 5 8 && decide (5 ≤ 10000)) = true := by kernel_rfl
theorem fl8 : flat Tryd.prog 5 8 = [1, 1, 2, 3] := by kernel_rfl
theorem eqo26 : (eqOk Tryd.prog 5 26 && decide (5 ≤ 10000)) = true := by kernel_rfl
theorem fl26 : flat Tryd.prog 5 26 = [1, 1] := by kernel_rfl
theorem eqo34 : (eqOk Tryd.prog 5 34 && decide (5 ≤ 10000)) = true := by kernel_rfl
theorem fl34 : flat Tryd.prog 5 34 = [1, 1, 1, 1] := by kernel_rfl
theorem eqo36 : (eqOk Tryd.prog 5 36 && decide (5 ≤ 10000)) = true := by kernel_rfl
theorem fl36 : flat Tryd.prog 5 36 = [1, 1] := by kernel_rfl
theorem eqo38 : (eqOk Tryd.prog 5 38 && decide (5 ≤ 10000)) = true := by kernel_rfl
theorem fl38 : flat Tryd.prog 5 38 = [1, 1, 1, 1, 2, 1, 2, 2, 1, 1, 1, 1, 2, 1, 1, 1, 1] := by kernel_rfl
theorem eqo49 : (eqOk Tryd.prog 5 49 && decide (5 ≤ 10000)) = true := by kernel_rfl
theorem fl49 : flat Tryd.prog 5 49 = [1, 1, 2, 2, 2, 1, 1, 1, 1, 1, 1, 1] := by kernel_rfl
theorem eq3 : (eqOk Tryd.prog 5 3 && decide (5 ≤ 10000)) = true := eqo3
theorem eg3 : Tryd.prog.eqGuardType Tryd.prog.depth 3 = false := by kernel_rfl
theorem eq4 : (eqOk Tryd.prog 5 4 && decide (5 ≤ 10000)) = true := eqo4
theorem eg4 : Tryd.prog.eqGuardType Tryd.prog.depth 4 = false := by kernel_rfl
theorem eq26 : (eqOk Tryd.prog 5 26 && decide (5 ≤ 10000)) = true := eqo26
theorem eg26 : Tryd.prog.eqGuardType Tryd.prog.depth 26 = false := by kernel_rfl
theorem eq49 : (eqOk Tryd.prog 5 49 && decide (5 ≤ 10000)) = true := eqo49
theorem eg49 : Tryd.prog.eqGuardType Tryd.prog.depth 49 = false := by kernel_rfl
theorem mo : Tryd.prog.follows .mixedOrders = true := by kernel_rfl
end Go.Rse
