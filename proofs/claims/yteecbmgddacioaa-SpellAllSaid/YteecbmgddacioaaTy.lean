/-
  Closed facts on the types, fields and functions of the translation: printed by program (genty.py).
-/
import Derived.Test.YteecbmgddacioaaProg
import Derived.Test.YteecbmgddacioaaRse22
import Derived.KernelRfl
namespace Go.Rse
open Go Go.Proofs
theorem ty3 : tyOk Try.prog 3 false 1 = true := by kernel_rfl
theorem ty4 : tyOk Try.prog 4 false 1 = true := by kernel_rfl
theorem ty23 : tyOk Try.prog 23 true 4 = true := by kernel_rfl
theorem ty26 : tyOk Try.prog 26 true 2 = true := by kernel_rfl
theorem ty29 : tyOk Try.prog 29 false 1 = true := by kernel_rfl
theorem ty30 : tyOk Try.prog 30 false 1 = true := by kernel_rfl
theorem ty33 : tyOk Try.prog 33 false 1 = true := by kernel_rfl
theorem ty34 : tyOk Try.prog 34 true 9 = true := by kernel_rfl
theorem ty41 : tyOk Try.prog 41 false 1 = true := by kernel_rfl
theorem ty43 : tyOk Try.prog 43 false 1 = true := by kernel_rfl
theorem ty56 : tyOk Try.prog 56 false 1 = true := by kernel_rfl
theorem ty64 : tyOk Try.prog 64 true 17 = true := by kernel_rfl
theorem ty96 : tyOk Try.prog 96 false 1 = true := by kernel_rfl
theorem ty97 : tyOk Try.prog 97 false 1 = true := by kernel_rfl
theorem ty100 : tyOk Try.prog 100 true 5 = true := by kernel_rfl
theorem ty129 : tyOk Try.prog 129 false 1 = true := by kernel_rfl
theorem ty131 : tyOk Try.prog 131 true 4 = true := by kernel_rfl
theorem ty132 : tyOk Try.prog 132 true 36 = true := by kernel_rfl
theorem ty149 : tyOk Try.prog 149 true 4 = true := by kernel_rfl
theorem ty175 : tyOk Try.prog 175 false 1 = true := by kernel_rfl
theorem ty195 : tyOk Try.prog 195 false 1 = true := by kernel_rfl
theorem us3 : (Program.underlying Try.prog 3).isSome = true := by kernel_rfl
theorem us5 : (Program.underlying Try.prog 5).isSome = true := by kernel_rfl
theorem us127 : (Program.underlying Try.prog 127).isSome = true := by kernel_rfl
theorem us164 : (Program.underlying Try.prog 164).isSome = true := by kernel_rfl
theorem us167 : (Program.underlying Try.prog 167).isSome = true := by kernel_rfl
theorem un3 : Program.underlying Try.prog 3 = some (.int .i64) := by kernel_rfl
theorem un5 : Program.underlying Try.prog 5 = some (.int .u8) := by kernel_rfl
theorem un127 : Program.underlying Try.prog 127 = some (.int .u64) := by kernel_rfl
theorem un164 : Program.underlying Try.prog 164 = some (.int .u32) := by kernel_rfl
theorem un167 : Program.underlying Try.prog 167 = some (.int .u64) := by kernel_rfl
theorem un195 : Program.underlying Try.prog 195 = some (.int .u64) := by kernel_rfl
theorem ze3 : (Try.prog.info? 3).bind (·.zero) = some (.int .i64 0) := by kernel_rfl
theorem zc3 : zCells Try.prog 3 [.int .i64 0] := ⟨_, ze3, rfl⟩
theorem ze4 : (Try.prog.info? 4).bind (·.zero) = some (.bool false) := by kernel_rfl
theorem zc4 : zCells Try.prog 4 [.bool false] := ⟨_, ze4, rfl⟩
theorem ze23 : (Try.prog.info? 23).bind (·.zero) = some (.agg #[.int .i64 0, .int .i64 0, .int .i64 0, .int .i64 0]) := by kernel_rfl
theorem zc23 : zCells Try.prog 23 [.int .i64 0, .int .i64 0, .int .i64 0, .int .i64 0] := ⟨_, ze23, rfl⟩
theorem ze26 : (Try.prog.info? 26).bind (·.zero) = some (.agg #[.int .i64 0, .int .i64 0]) := by kernel_rfl
theorem zc26 : zCells Try.prog 26 [.int .i64 0, .int .i64 0] := ⟨_, ze26, rfl⟩
theorem ze29 : (Try.prog.info? 29).bind (·.zero) = some (.slice none 0 0) := by kernel_rfl
theorem zc29 : zCells Try.prog 29 [.nils] := ⟨_, ze29, rfl⟩
theorem ze30 : (Try.prog.info? 30).bind (·.zero) = some (.int .i64 0) := by kernel_rfl
theorem zc30 : zCells Try.prog 30 [.int .i64 0] := ⟨_, ze30, rfl⟩
theorem ze33 : (Try.prog.info? 33).bind (·.zero) = some (.slice none 0 0) := by kernel_rfl
theorem zc33 : zCells Try.prog 33 [.nils] := ⟨_, ze33, rfl⟩
theorem ze34 : (Try.prog.info? 34).bind (·.zero) = some (.agg #[.int .i64 0, .int .i64 0, .int .i64 0, .int .i64 0, .int .i64 0, .int .i64 0, .int .i64 0, .int .i64 0, .int .i64 0]) := by kernel_rfl
theorem zc34 : zCells Try.prog 34 [.int .i64 0, .int .i64 0, .int .i64 0, .int .i64 0, .int .i64 0, .int .i64 0, .int .i64 0, .int .i64 0, .int .i64 0] := ⟨_, ze34, rfl⟩
theorem ze41 : (Try.prog.info? 41).bind (·.zero) = some (.slice none 0 0) := by kernel_rfl
theorem zc41 : zCells Try.prog 41 [.nils] := ⟨_, ze41, rfl⟩
theorem ze43 : (Try.prog.info? 43).bind (·.zero) = some (.slice none 0 0) := by kernel_rfl
theorem zc43 : zCells Try.prog 43 [.nils] := ⟨_, ze43, rfl⟩
theorem ze56 : (Try.prog.info? 56).bind (·.zero) = some (.slice none 0 0) := by kernel_rfl
theorem zc56 : zCells Try.prog 56 [.nils] := ⟨_, ze56, rfl⟩
theorem ze64 : (Try.prog.info? 64).bind (·.zero) = some (.agg #[.int .i64 0, .int .i64 0, .int .i64 0, .int .i64 0, .bool false, .int .i64 0, .bool false, .bool false, .int .i64 0, .int .i64 0, .int .i64 0, .int .i64 0, .bool false, .int .i64 0, .int .i64 0, .int .i64 0, .int .i64 0]) := by kernel_rfl
theorem zc64 : zCells Try.prog 64 [.int .i64 0, .int .i64 0, .int .i64 0, .int .i64 0, .bool false, .int .i64 0, .bool false, .bool false, .int .i64 0, .int .i64 0, .int .i64 0, .int .i64 0, .bool false, .int .i64 0, .int .i64 0, .int .i64 0, .int .i64 0] := ⟨_, ze64, rfl⟩
theorem ze96 : (Try.prog.info? 96).bind (·.zero) = some (.nilFunc) := by kernel_rfl
theorem zc96 : zCells Try.prog 96 [.nilf] := ⟨_, ze96, rfl⟩
theorem ze97 : (Try.prog.info? 97).bind (·.zero) = some (.nilFunc) := by kernel_rfl
theorem zc97 : zCells Try.prog 97 [.nilf] := ⟨_, ze97, rfl⟩
theorem ze100 : (Try.prog.info? 100).bind (·.zero) = some (.agg #[.int .i64 0, .bool false, .bool false, .bool false, .int .i64 0]) := by kernel_rfl
theorem zc100 : zCells Try.prog 100 [.int .i64 0, .bool false, .bool false, .bool false, .int .i64 0] := ⟨_, ze100, rfl⟩
theorem ze129 : (Try.prog.info? 129).bind (·.zero) = some (.nilFunc) := by kernel_rfl
theorem zc129 : zCells Try.prog 129 [.nilf] := ⟨_, ze129, rfl⟩
theorem ze131 : (Try.prog.info? 131).bind (·.zero) = some (.agg #[.bool false, .bool false, .bool false, .nilFunc]) := by kernel_rfl
theorem zc131 : zCells Try.prog 131 [.bool false, .bool false, .bool false, .nilf] := ⟨_, ze131, rfl⟩
theorem ze132 : (Try.prog.info? 132).bind (·.zero) = some (.agg #[.bool false, .bool false, .bool false, .nilFunc, .bool false, .bool false, .bool false, .nilFunc, .bool false, .bool false, .bool false, .nilFunc, .bool false, .bool false, .bool false, .nilFunc, .bool false, .bool false, .bool false, .nilFunc, .bool false, .bool false, .bool false, .nilFunc, .bool false, .bool false, .bool false, .nilFunc, .bool false, .bool false, .bool false, .nilFunc, .bool false, .bool false, .bool false, .nilFunc]) := by kernel_rfl
theorem zc132 : zCells Try.prog 132 [.bool false, .bool false, .bool false, .nilf, .bool false, .bool false, .bool false, .nilf, .bool false, .bool false, .bool false, .nilf, .bool false, .bool false, .bool false, .nilf, .bool false, .bool false, .bool false, .nilf, .bool false, .bool false, .bool false, .nilf, .bool false, .bool false, .bool false, .nilf, .bool false, .bool false, .bool false, .nilf, .bool false, .bool false, .bool false, .nilf] := ⟨_, ze132, rfl⟩
theorem ze149 : (Try.prog.info? 149).bind (·.zero) = some (.agg #[.int .i64 0, .int .i64 0, .int .i64 0, .int .i64 0]) := by kernel_rfl
theorem zc149 : zCells Try.prog 149 [.int .i64 0, .int .i64 0, .int .i64 0, .int .i64 0] := ⟨_, ze149, rfl⟩
theorem ze175 : (Try.prog.info? 175).bind (·.zero) = some (.nilFunc) := by kernel_rfl
theorem zc175 : zCells Try.prog 175 [.nilf] := ⟨_, ze175, rfl⟩
theorem ze195 : (Try.prog.info? 195).bind (·.zero) = some (.int .u64 0) := by kernel_rfl
theorem zc195 : zCells Try.prog 195 [.int .u64 0] := ⟨_, ze195, rfl⟩
theorem ti3 : TyInfo Try.prog 3 (.int .i64 0) 1 8 := tyInfo_of (by kernel_rfl) rfl
theorem ti4 : TyInfo Try.prog 4 (.bool false) 1 1 := tyInfo_of (by kernel_rfl) rfl
theorem ti26 : TyInfo Try.prog 26 (.agg #[.int .i64 0, .int .i64 0]) 2 16 := tyInfo_of (by kernel_rfl) rfl
theorem ti29 : TyInfo Try.prog 29 (.slice none 0 0) 1 24 := tyInfo_of (by kernel_rfl) rfl
theorem ti64 : TyInfo Try.prog 64 (.agg #[.int .i64 0, .int .i64 0, .int .i64 0, .int .i64 0, .bool false, .int .i64 0, .bool false, .bool false, .int .i64 0, .int .i64 0, .int .i64 0, .int .i64 0, .bool false, .int .i64 0, .int .i64 0, .int .i64 0, .int .i64 0]) 17 128 := tyInfo_of (by kernel_rfl) rfl
theorem ti100 : TyInfo Try.prog 100 (.agg #[.int .i64 0, .bool false, .bool false, .bool false, .int .i64 0]) 5 24 := tyInfo_of (by kernel_rfl) rfl
theorem sl29 : slOk Try.prog 29 3 = true := by kernel_rfl
theorem sl33 : slOk Try.prog 33 26 = true := by kernel_rfl
theorem sl41 : slOk Try.prog 41 64 = true := by kernel_rfl
theorem sl43 : slOk Try.prog 43 29 = true := by kernel_rfl
theorem sl56 : slOk Try.prog 56 4 = true := by kernel_rfl
theorem sl89 : slOk Try.prog 89 100 = true := by kernel_rfl
theorem fo23_0 : fldOk Try.prog 23 0 0 = true := by kernel_rfl
theorem fo23_1 : fldOk Try.prog 23 1 1 = true := by kernel_rfl
theorem fo23_2 : fldOk Try.prog 23 2 2 = true := by kernel_rfl
theorem fo23_3 : fldOk Try.prog 23 3 3 = true := by kernel_rfl
theorem fo26_0 : fldOk Try.prog 26 0 0 = true := by kernel_rfl
theorem fo26_1 : fldOk Try.prog 26 1 1 = true := by kernel_rfl
theorem fo64_0 : fldOk Try.prog 64 0 0 = true := by kernel_rfl
theorem fo64_1 : fldOk Try.prog 64 1 1 = true := by kernel_rfl
theorem fo64_4 : fldOk Try.prog 64 4 4 = true := by kernel_rfl
theorem fo100_0 : fldOk Try.prog 100 0 0 = true := by kernel_rfl
theorem fo100_1 : fldOk Try.prog 100 1 1 = true := by kernel_rfl
theorem fo100_2 : fldOk Try.prog 100 2 2 = true := by kernel_rfl
theorem fo100_3 : fldOk Try.prog 100 3 3 = true := by kernel_rfl
theorem fo100_4 : fldOk Try.prog 100 4 4 = true := by kernel_rfl
theorem fo131_0 : fldOk Try.prog 131 0 0 = true := by kernel_rfl
theorem fo131_1 : fldOk Try.prog 131 1 1 = true := by kernel_rfl
theorem fo131_2 : fldOk Try.prog 131 2 2 = true := by kernel_rfl
theorem fo131_3 : fldOk Try.prog 131 3 3 = true := by kernel_rfl
theorem pl23 : places Try.prog 23 = some [(0, 1), (1, 1), (2, 1), (3, 1)] := by kernel_rfl
theorem ia23 : infoAll Try.prog 23 = true := by kernel_rfl
theorem pl26 : places Try.prog 26 = some [(0, 1), (1, 1)] := by kernel_rfl
theorem ia26 : infoAll Try.prog 26 = true := by kernel_rfl
theorem pl64 : places Try.prog 64 = some [(0, 1), (1, 1), (2, 1), (3, 1), (4, 1), (5, 1), (6, 1), (7, 1), (8, 4), (12, 1), (13, 1), (14, 1), (15, 2)] := by kernel_rfl
theorem ia64 : infoAll Try.prog 64 = true := by kernel_rfl
theorem pl100 : places Try.prog 100 = some [(0, 1), (1, 1), (2, 1), (3, 1), (4, 1)] := by kernel_rfl
theorem ia100 : infoAll Try.prog 100 = true := by kernel_rfl
theorem pl131 : places Try.prog 131 = some [(0, 1), (1, 1), (2, 1), (3, 1)] := by kernel_rfl
theorem ia131 : infoAll Try.prog 131 = true := by kernel_rfl
theorem ar34 : arrOk Try.prog 34 9 3 = true := by kernel_rfl
theorem ar132 : arrOk Try.prog 132 9 131 = true := by kernel_rfl
theorem ar149 : arrOk Try.prog 149 4 3 = true := by kernel_rfl
theorem eqo3 : (eqOk Try.prog 5 3 && decide (5 ≤ 10000)) = true := by kernel_rfl
theorem fl3 : flat Try.prog 5 3 = [1] := by kernel_rfl
theorem eqo4 : (eqOk Try.prog 5 4 && decide (5 ≤ 10000)) = true := by kernel_rfl
theorem fl4 : flat Try.prog 5 4 = [2] := by kernel_rfl
theorem eqo8 : (eqOk Try.prog 5 8 && decide (5 ≤ 10000)) = true := by kernel_rfl
theorem fl8 : flat Try.prog 5 8 = [1, 1, 2, 3] := by kernel_rfl
theorem eqo23 : (eqOk Try.prog 5 23 && decide (5 ≤ 10000)) = true := by kernel_rfl
theorem fl23 : flat Try.prog 5 23 = [1, 1, 1, 1] := by kernel_rfl
theorem eqo26 : (eqOk Try.prog 5 26 && decide (5 ≤ 10000)) = true := by kernel_rfl
theorem fl26 : flat Try.prog 5 26 = [1, 1] := by kernel_rfl
theorem eqo62 : (eqOk Try.prog 5 62 && decide (5 ≤ 10000)) = true := by kernel_rfl
theorem fl62 : flat Try.prog 5 62 = [1, 1] := by kernel_rfl
theorem eqo64 : (eqOk Try.prog 5 64 && decide (5 ≤ 10000)) = true := by kernel_rfl
theorem fl64 : flat Try.prog 5 64 = [1, 1, 1, 1, 2, 1, 2, 2, 1, 1, 1, 1, 2, 1, 1, 1, 1] := by kernel_rfl
theorem eqo100 : (eqOk Try.prog 5 100 && decide (5 ≤ 10000)) = true := by kernel_rfl
theorem fl100 : flat Try.prog 5 100 = [1, 2, 2, 2, 1] := by kernel_rfl
theorem eq3 : (eqOk Try.prog 5 3 && decide (5 ≤ 10000)) = true := eqo3
theorem eg3 : Try.prog.eqGuardType Try.prog.depth 3 = false := by kernel_rfl
theorem eq4 : (eqOk Try.prog 5 4 && decide (5 ≤ 10000)) = true := eqo4
theorem eg4 : Try.prog.eqGuardType Try.prog.depth 4 = false := by kernel_rfl
theorem eq23 : (eqOk Try.prog 5 23 && decide (5 ≤ 10000)) = true := eqo23
theorem eg23 : Try.prog.eqGuardType Try.prog.depth 23 = false := by kernel_rfl
theorem eq26 : (eqOk Try.prog 5 26 && decide (5 ≤ 10000)) = true := eqo26
theorem eg26 : Try.prog.eqGuardType Try.prog.depth 26 = false := by kernel_rfl
theorem eq64 : (eqOk Try.prog 5 64 && decide (5 ≤ 10000)) = true := eqo64
theorem eg64 : Try.prog.eqGuardType Try.prog.depth 64 = false := by kernel_rfl
theorem eq100 : (eqOk Try.prog 5 100 && decide (5 ≤ 10000)) = true := eqo100
theorem eg100 : Try.prog.eqGuardType Try.prog.depth 100 = false := by kernel_rfl
theorem mo : Try.prog.follows .mixedOrders = true := by kernel_rfl
end Go.Rse
