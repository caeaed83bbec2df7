/-
  Closed facts on the types, fields and functions of the translation: printed by program (genty.py).
-/
import Derived.Test.YteecbmgddacioaaGreatProg
import Derived.Test.YteecbmgddacioaaGreatRse22
import Derived.KernelRfl
namespace Go.Rse
open Go Go.Proofs
theorem ty3 : tyOk Tryz.prog 3 false 1 = true := by kernel_rfl
theorem ty4 : tyOk Tryz.prog 4 false 1 = true := by kernel_rfl
theorem ty23 : tyOk Tryz.prog 23 true 4 = true := by kernel_rfl
theorem ty25 : tyOk Tryz.prog 25 true 5 = true := by kernel_rfl
theorem ty26 : tyOk Tryz.prog 26 false 1 = true := by kernel_rfl
theorem ty38 : tyOk Tryz.prog 38 false 1 = true := by kernel_rfl
theorem ty40 : tyOk Tryz.prog 40 true 4 = true := by kernel_rfl
theorem ty49 : tyOk Tryz.prog 49 true 17 = true := by kernel_rfl
theorem ty51 : tyOk Tryz.prog 51 true 2 = true := by kernel_rfl
theorem ty62 : tyOk Tryz.prog 62 true 4 = true := by kernel_rfl
theorem ty65 : tyOk Tryz.prog 65 true 36 = true := by kernel_rfl
theorem ty100 : tyOk Tryz.prog 100 false 1 = true := by kernel_rfl
theorem ty122 : tyOk Tryz.prog 122 false 1 = true := by kernel_rfl
theorem ty128 : tyOk Tryz.prog 128 false 1 = true := by kernel_rfl
theorem us3 : (Program.underlying Tryz.prog 3).isSome = true := by kernel_rfl
theorem us5 : (Program.underlying Tryz.prog 5).isSome = true := by kernel_rfl
theorem us85 : (Program.underlying Tryz.prog 85).isSome = true := by kernel_rfl
theorem us110 : (Program.underlying Tryz.prog 110).isSome = true := by kernel_rfl
theorem us112 : (Program.underlying Tryz.prog 112).isSome = true := by kernel_rfl
theorem un3 : Program.underlying Tryz.prog 3 = some (.int .i64) := by kernel_rfl
theorem un5 : Program.underlying Tryz.prog 5 = some (.int .u8) := by kernel_rfl
theorem un85 : Program.underlying Tryz.prog 85 = some (.int .u64) := by kernel_rfl
theorem un110 : Program.underlying Tryz.prog 110 = some (.int .u32) := by kernel_rfl
theorem un112 : Program.underlying Tryz.prog 112 = some (.int .u64) := by kernel_rfl
theorem un122 : Program.underlying Tryz.prog 122 = some (.int .u64) := by kernel_rfl
theorem ze3 : (Tryz.prog.info? 3).bind (·.zero) = some (.int .i64 0) := by kernel_rfl
theorem zc3 : zCells Tryz.prog 3 [.int .i64 0] := ⟨_, ze3, rfl⟩
theorem ze4 : (Tryz.prog.info? 4).bind (·.zero) = some (.bool false) := by kernel_rfl
theorem zc4 : zCells Tryz.prog 4 [.bool false] := ⟨_, ze4, rfl⟩
theorem ze23 : (Tryz.prog.info? 23).bind (·.zero) = some (.agg #[.int .i64 0, .int .i64 0, .int .i64 0, .int .i64 0]) := by kernel_rfl
theorem zc23 : zCells Tryz.prog 23 [.int .i64 0, .int .i64 0, .int .i64 0, .int .i64 0] := ⟨_, ze23, rfl⟩
theorem ze25 : (Tryz.prog.info? 25).bind (·.zero) = some (.agg #[.int .i64 0, .bool false, .bool false, .bool false, .int .i64 0]) := by kernel_rfl
theorem zc25 : zCells Tryz.prog 25 [.int .i64 0, .bool false, .bool false, .bool false, .int .i64 0] := ⟨_, ze25, rfl⟩
theorem ze26 : (Tryz.prog.info? 26).bind (·.zero) = some (.slice none 0 0) := by kernel_rfl
theorem zc26 : zCells Tryz.prog 26 [.nils] := ⟨_, ze26, rfl⟩
theorem ze38 : (Tryz.prog.info? 38).bind (·.zero) = some (.nilFunc) := by kernel_rfl
theorem zc38 : zCells Tryz.prog 38 [.nilf] := ⟨_, ze38, rfl⟩
theorem ze40 : (Tryz.prog.info? 40).bind (·.zero) = some (.agg #[.bool false, .bool false, .bool false, .nilFunc]) := by kernel_rfl
theorem zc40 : zCells Tryz.prog 40 [.bool false, .bool false, .bool false, .nilf] := ⟨_, ze40, rfl⟩
theorem ze49 : (Tryz.prog.info? 49).bind (·.zero) = some (.agg #[.int .i64 0, .int .i64 0, .int .i64 0, .int .i64 0, .bool false, .int .i64 0, .bool false, .bool false, .int .i64 0, .int .i64 0, .int .i64 0, .int .i64 0, .bool false, .int .i64 0, .int .i64 0, .int .i64 0, .int .i64 0]) := by kernel_rfl
theorem zc49 : zCells Tryz.prog 49 [.int .i64 0, .int .i64 0, .int .i64 0, .int .i64 0, .bool false, .int .i64 0, .bool false, .bool false, .int .i64 0, .int .i64 0, .int .i64 0, .int .i64 0, .bool false, .int .i64 0, .int .i64 0, .int .i64 0, .int .i64 0] := ⟨_, ze49, rfl⟩
theorem ze51 : (Tryz.prog.info? 51).bind (·.zero) = some (.agg #[.int .i64 0, .int .i64 0]) := by kernel_rfl
theorem zc51 : zCells Tryz.prog 51 [.int .i64 0, .int .i64 0] := ⟨_, ze51, rfl⟩
theorem ze62 : (Tryz.prog.info? 62).bind (·.zero) = some (.agg #[.int .i64 0, .int .i64 0, .int .i64 0, .int .i64 0]) := by kernel_rfl
theorem zc62 : zCells Tryz.prog 62 [.int .i64 0, .int .i64 0, .int .i64 0, .int .i64 0] := ⟨_, ze62, rfl⟩
theorem ze65 : (Tryz.prog.info? 65).bind (·.zero) = some (.agg #[.bool false, .bool false, .bool false, .nilFunc, .bool false, .bool false, .bool false, .nilFunc, .bool false, .bool false, .bool false, .nilFunc, .bool false, .bool false, .bool false, .nilFunc, .bool false, .bool false, .bool false, .nilFunc, .bool false, .bool false, .bool false, .nilFunc, .bool false, .bool false, .bool false, .nilFunc, .bool false, .bool false, .bool false, .nilFunc, .bool false, .bool false, .bool false, .nilFunc]) := by kernel_rfl
theorem zc65 : zCells Tryz.prog 65 [.bool false, .bool false, .bool false, .nilf, .bool false, .bool false, .bool false, .nilf, .bool false, .bool false, .bool false, .nilf, .bool false, .bool false, .bool false, .nilf, .bool false, .bool false, .bool false, .nilf, .bool false, .bool false, .bool false, .nilf, .bool false, .bool false, .bool false, .nilf, .bool false, .bool false, .bool false, .nilf, .bool false, .bool false, .bool false, .nilf] := ⟨_, ze65, rfl⟩
theorem ze100 : (Tryz.prog.info? 100).bind (·.zero) = some (.nilFunc) := by kernel_rfl
theorem zc100 : zCells Tryz.prog 100 [.nilf] := ⟨_, ze100, rfl⟩
theorem ze122 : (Tryz.prog.info? 122).bind (·.zero) = some (.int .u64 0) := by kernel_rfl
theorem zc122 : zCells Tryz.prog 122 [.int .u64 0] := ⟨_, ze122, rfl⟩
theorem ze128 : (Tryz.prog.info? 128).bind (·.zero) = some (.nilFunc) := by kernel_rfl
theorem zc128 : zCells Tryz.prog 128 [.nilf] := ⟨_, ze128, rfl⟩
theorem ti3 : TyInfo Tryz.prog 3 (.int .i64 0) 1 8 := tyInfo_of (by kernel_rfl) rfl
theorem ti25 : TyInfo Tryz.prog 25 (.agg #[.int .i64 0, .bool false, .bool false, .bool false, .int .i64 0]) 5 24 := tyInfo_of (by kernel_rfl) rfl
theorem ti49 : TyInfo Tryz.prog 49 (.agg #[.int .i64 0, .int .i64 0, .int .i64 0, .int .i64 0, .bool false, .int .i64 0, .bool false, .bool false, .int .i64 0, .int .i64 0, .int .i64 0, .int .i64 0, .bool false, .int .i64 0, .int .i64 0, .int .i64 0, .int .i64 0]) 17 128 := tyInfo_of (by kernel_rfl) rfl
theorem ti51 : TyInfo Tryz.prog 51 (.agg #[.int .i64 0, .int .i64 0]) 2 16 := tyInfo_of (by kernel_rfl) rfl
theorem sl26 : slOk Tryz.prog 26 51 = true := by kernel_rfl
theorem sl30 : slOk Tryz.prog 30 49 = true := by kernel_rfl
theorem sl52 : slOk Tryz.prog 52 25 = true := by kernel_rfl
theorem sl56 : slOk Tryz.prog 56 3 = true := by kernel_rfl
theorem fo23_0 : fldOk Tryz.prog 23 0 0 = true := by kernel_rfl
theorem fo23_1 : fldOk Tryz.prog 23 1 1 = true := by kernel_rfl
theorem fo23_2 : fldOk Tryz.prog 23 2 2 = true := by kernel_rfl
theorem fo23_3 : fldOk Tryz.prog 23 3 3 = true := by kernel_rfl
theorem fo25_0 : fldOk Tryz.prog 25 0 0 = true := by kernel_rfl
theorem fo25_1 : fldOk Tryz.prog 25 1 1 = true := by kernel_rfl
theorem fo25_2 : fldOk Tryz.prog 25 2 2 = true := by kernel_rfl
theorem fo25_3 : fldOk Tryz.prog 25 3 3 = true := by kernel_rfl
theorem fo25_4 : fldOk Tryz.prog 25 4 4 = true := by kernel_rfl
theorem fo40_0 : fldOk Tryz.prog 40 0 0 = true := by kernel_rfl
theorem fo40_1 : fldOk Tryz.prog 40 1 1 = true := by kernel_rfl
theorem fo40_2 : fldOk Tryz.prog 40 2 2 = true := by kernel_rfl
theorem fo40_3 : fldOk Tryz.prog 40 3 3 = true := by kernel_rfl
theorem fo51_0 : fldOk Tryz.prog 51 0 0 = true := by kernel_rfl
theorem fo51_1 : fldOk Tryz.prog 51 1 1 = true := by kernel_rfl
theorem pl23 : places Tryz.prog 23 = some [(0, 1), (1, 1), (2, 1), (3, 1)] := by kernel_rfl
theorem ia23 : infoAll Tryz.prog 23 = true := by kernel_rfl
theorem pl25 : places Tryz.prog 25 = some [(0, 1), (1, 1), (2, 1), (3, 1), (4, 1)] := by kernel_rfl
theorem ia25 : infoAll Tryz.prog 25 = true := by kernel_rfl
theorem pl40 : places Tryz.prog 40 = some [(0, 1), (1, 1), (2, 1), (3, 1)] := by kernel_rfl
theorem ia40 : infoAll Tryz.prog 40 = true := by kernel_rfl
theorem pl49 : places Tryz.prog 49 = some [(0, 1), (1, 1), (2, 1), (3, 1), (4, 1), (5, 1), (6, 1), (7, 1), (8, 4), (12, 1), (13, 1), (14, 1), (15, 2)] := by kernel_rfl
theorem ia49 : infoAll Tryz.prog 49 = true := by kernel_rfl
theorem pl51 : places Tryz.prog 51 = some [(0, 1), (1, 1)] := by kernel_rfl
theorem ia51 : infoAll Tryz.prog 51 = true := by kernel_rfl
theorem ar62 : arrOk Tryz.prog 62 4 3 = true := by kernel_rfl
theorem ar65 : arrOk Tryz.prog 65 9 40 = true := by kernel_rfl
theorem eqo3 : (eqOk Tryz.prog 5 3 && decide (5 ≤ 10000)) = true := by kernel_rfl
theorem fl3 : flat Tryz.prog 5 3 = [1] := by kernel_rfl
theorem eqo4 : (eqOk Tryz.prog 5 4 && decide (5 ≤ 10000)) = true := by kernel_rfl
theorem fl4 : flat Tryz.prog 5 4 = [2] := by kernel_rfl
theorem eqo8 : (eqOk Tryz.prog 5 8 && decide (5 ≤ 10000)) = true := by kernel_rfl
theorem fl8 : flat Tryz.prog 5 8 = [1, 1, 2, 3] := by kernel_rfl
theorem eqo23 : (eqOk Tryz.prog 5 23 && decide (5 ≤ 10000)) = true := by kernel_rfl
theorem fl23 : flat Tryz.prog 5 23 = [1, 1, 1, 1] := by kernel_rfl
theorem eqo25 : (eqOk Tryz.prog 5 25 && decide (5 ≤ 10000)) = true := by kernel_rfl
theorem fl25 : flat Tryz.prog 5 25 = [1, 2, 2, 2, 1] := by kernel_rfl
theorem eqo47 : (eqOk Tryz.prog 5 47 && decide (5 ≤ 10000)) = true := by kernel_rfl
theorem fl47 : flat Tryz.prog 5 47 = [1, 1] := by kernel_rfl
theorem eqo49 : (eqOk Tryz.prog 5 49 && decide (5 ≤ 10000)) = true := by kernel_rfl
theorem fl49 : flat Tryz.prog 5 49 = [1, 1, 1, 1, 2, 1, 2, 2, 1, 1, 1, 1, 2, 1, 1, 1, 1] := by kernel_rfl
theorem eqo51 : (eqOk Tryz.prog 5 51 && decide (5 ≤ 10000)) = true := by kernel_rfl
theorem fl51 : flat Tryz.prog 5 51 = [1, 1] := by kernel_rfl
theorem eq3 : (eqOk Tryz.prog 5 3 && decide (5 ≤ 10000)) = true := eqo3
theorem eg3 : Tryz.prog.eqGuardType Tryz.prog.depth 3 = false := by kernel_rfl
theorem eq4 : (eqOk Tryz.prog 5 4 && decide (5 ≤ 10000)) = true := eqo4
theorem eg4 : Tryz.prog.eqGuardType Tryz.prog.depth 4 = false := by kernel_rfl
theorem eq25 : (eqOk Tryz.prog 5 25 && decide (5 ≤ 10000)) = true := eqo25
theorem eg25 : Tryz.prog.eqGuardType Tryz.prog.depth 25 = false := by kernel_rfl
theorem eq49 : (eqOk Tryz.prog 5 49 && decide (5 ≤ 10000)) = true := eqo49
theorem eg49 : Tryz.prog.eqGuardType Tryz.prog.depth 49 = false := by kernel_rfl
theorem eq51 : (eqOk Tryz.prog 5 51 && decide (5 ≤ 10000)) = true := eqo51
theorem eg51 : Tryz.prog.eqGuardType Tryz.prog.depth 51 = false := by kernel_rfl
theorem mo : Tryz.prog.follows .mixedOrders = true := by kernel_rfl
end Go.Rse
