/-
  Closed facts on the types, fields and functions of the translation: printed by program (genty.py).
-/
import Derived.Test.YtmbjfeaipblfcaaGreatDoorProg
import Derived.Test.YtmbjfeaipblfcaaGreatDoorTLogA
import Derived.KernelRfl
namespace Go.Rse
open Go Go.Proofs
theorem ty3 : tyOk Tryz.prog 3 false 1 = true := by kernel_rfl
theorem ty4 : tyOk Tryz.prog 4 false 1 = true := by kernel_rfl
theorem ty23 : tyOk Tryz.prog 23 true 4 = true := by kernel_rfl
theorem ty24 : tyOk Tryz.prog 24 false 1 = true := by kernel_rfl
theorem ty25 : tyOk Tryz.prog 25 false 1 = true := by kernel_rfl
theorem ty30 : tyOk Tryz.prog 30 false 1 = true := by kernel_rfl
theorem ty49 : tyOk Tryz.prog 49 true 17 = true := by kernel_rfl
theorem ty51 : tyOk Tryz.prog 51 true 2 = true := by kernel_rfl
theorem ty53 : tyOk Tryz.prog 53 true 12 = true := by kernel_rfl
theorem ty89 : tyOk Tryz.prog 89 false 1 = true := by kernel_rfl
theorem ty107 : tyOk Tryz.prog 107 false 1 = true := by kernel_rfl
theorem ty191 : tyOk Tryz.prog 191 false 1 = true := by kernel_rfl
theorem ty194 : tyOk Tryz.prog 194 true 4 = true := by kernel_rfl
theorem ty209 : tyOk Tryz.prog 209 false 1 = true := by kernel_rfl
theorem us3 : (Program.underlying Tryz.prog 3).isSome = true := by kernel_rfl
theorem ze3 : (Tryz.prog.info? 3).bind (·.zero) = some (.int .i64 0) := by kernel_rfl
theorem zc3 : zCells Tryz.prog 3 [.int .i64 0] := ⟨_, ze3, rfl⟩
theorem ze4 : (Tryz.prog.info? 4).bind (·.zero) = some (.bool false) := by kernel_rfl
theorem zc4 : zCells Tryz.prog 4 [.bool false] := ⟨_, ze4, rfl⟩
theorem ze23 : (Tryz.prog.info? 23).bind (·.zero) = some (.agg #[.int .i64 0, .int .i64 0, .int .i64 0, .int .i64 0]) := by kernel_rfl
theorem zc23 : zCells Tryz.prog 23 [.int .i64 0, .int .i64 0, .int .i64 0, .int .i64 0] := ⟨_, ze23, rfl⟩
theorem ze25 : (Tryz.prog.info? 25).bind (·.zero) = some (.slice none 0 0) := by kernel_rfl
theorem zc25 : zCells Tryz.prog 25 [.nils] := ⟨_, ze25, rfl⟩
theorem ze30 : (Tryz.prog.info? 30).bind (·.zero) = some (.int .i64 0) := by kernel_rfl
theorem zc30 : zCells Tryz.prog 30 [.int .i64 0] := ⟨_, ze30, rfl⟩
theorem ze49 : (Tryz.prog.info? 49).bind (·.zero) = some (.agg #[.int .i64 0, .int .i64 0, .int .i64 0, .int .i64 0, .bool false, .int .i64 0, .bool false, .bool false, .int .i64 0, .int .i64 0, .int .i64 0, .int .i64 0, .bool false, .int .i64 0, .int .i64 0, .int .i64 0, .int .i64 0]) := by kernel_rfl
theorem zc49 : zCells Tryz.prog 49 [.int .i64 0, .int .i64 0, .int .i64 0, .int .i64 0, .bool false, .int .i64 0, .bool false, .bool false, .int .i64 0, .int .i64 0, .int .i64 0, .int .i64 0, .bool false, .int .i64 0, .int .i64 0, .int .i64 0, .int .i64 0] := ⟨_, ze49, rfl⟩
theorem ze51 : (Tryz.prog.info? 51).bind (·.zero) = some (.agg #[.int .i64 0, .int .i64 0]) := by kernel_rfl
theorem zc51 : zCells Tryz.prog 51 [.int .i64 0, .int .i64 0] := ⟨_, ze51, rfl⟩
theorem ze53 : (Tryz.prog.info? 53).bind (·.zero) = some (.agg #[.int .i64 0, .int .i64 0, .bool false, .bool false, .bool false, .int .i64 0, .int .i64 0, .int .i64 0, .int .i64 0, .int .i64 0, .int .i64 0, .int .i64 0]) := by kernel_rfl
theorem zc53 : zCells Tryz.prog 53 [.int .i64 0, .int .i64 0, .bool false, .bool false, .bool false, .int .i64 0, .int .i64 0, .int .i64 0, .int .i64 0, .int .i64 0, .int .i64 0, .int .i64 0] := ⟨_, ze53, rfl⟩
theorem ze89 : (Tryz.prog.info? 89).bind (·.zero) = some (.slice none 0 0) := by kernel_rfl
theorem zc89 : zCells Tryz.prog 89 [.nils] := ⟨_, ze89, rfl⟩
theorem ze171 : (Tryz.prog.info? 171).bind (·.zero) = some (.agg #[.string ⟨#[]⟩, .slice none 0 0, .int .i64 0, .int .i64 0, .int .i64 0, .int .i64 0, .int .i64 0, .bool false, .bool false]) := by kernel_rfl
theorem zc171 : zCells Tryz.prog 171 [.str ⟨#[]⟩, .nils, .int .i64 0, .int .i64 0, .int .i64 0, .int .i64 0, .int .i64 0, .bool false, .bool false] := ⟨_, ze171, rfl⟩
theorem ze194 : (Tryz.prog.info? 194).bind (·.zero) = some (.agg #[.int .i64 0, .int .i64 0, .int .i64 0, .int .i64 0]) := by kernel_rfl
theorem zc194 : zCells Tryz.prog 194 [.int .i64 0, .int .i64 0, .int .i64 0, .int .i64 0] := ⟨_, ze194, rfl⟩
theorem ze209 : (Tryz.prog.info? 209).bind (·.zero) = some (.nilFunc) := by kernel_rfl
theorem zc209 : zCells Tryz.prog 209 [.nilf] := ⟨_, ze209, rfl⟩
theorem ti3 : TyInfo Tryz.prog 3 (.int .i64 0) 1 8 := tyInfo_of (by kernel_rfl) rfl
theorem ti4 : TyInfo Tryz.prog 4 (.bool false) 1 1 := tyInfo_of (by kernel_rfl) rfl
theorem ti25 : TyInfo Tryz.prog 25 (.slice none 0 0) 1 24 := tyInfo_of (by kernel_rfl) rfl
theorem ti49 : TyInfo Tryz.prog 49 (.agg #[.int .i64 0, .int .i64 0, .int .i64 0, .int .i64 0, .bool false, .int .i64 0, .bool false, .bool false, .int .i64 0, .int .i64 0, .int .i64 0, .int .i64 0, .bool false, .int .i64 0, .int .i64 0, .int .i64 0, .int .i64 0]) 17 128 := tyInfo_of (by kernel_rfl) rfl
theorem ti51 : TyInfo Tryz.prog 51 (.agg #[.int .i64 0, .int .i64 0]) 2 16 := tyInfo_of (by kernel_rfl) rfl
theorem ti53 : TyInfo Tryz.prog 53 (.agg #[.int .i64 0, .int .i64 0, .bool false, .bool false, .bool false, .int .i64 0, .int .i64 0, .int .i64 0, .int .i64 0, .int .i64 0, .int .i64 0, .int .i64 0]) 12 80 := tyInfo_of (by kernel_rfl) rfl
theorem sl24 : slOk Tryz.prog 24 49 = true := by kernel_rfl
theorem sl25 : slOk Tryz.prog 25 3 = true := by kernel_rfl
theorem sl29 : slOk Tryz.prog 29 53 = true := by kernel_rfl
theorem sl70 : slOk Tryz.prog 70 51 = true := by kernel_rfl
theorem sl89 : slOk Tryz.prog 89 4 = true := by kernel_rfl
theorem sl107 : slOk Tryz.prog 107 25 = true := by kernel_rfl
theorem fo23_0 : fldOk Tryz.prog 23 0 0 = true := by kernel_rfl
theorem fo23_1 : fldOk Tryz.prog 23 1 1 = true := by kernel_rfl
theorem fo23_2 : fldOk Tryz.prog 23 2 2 = true := by kernel_rfl
theorem fo23_3 : fldOk Tryz.prog 23 3 3 = true := by kernel_rfl
theorem fo49_0 : fldOk Tryz.prog 49 0 0 = true := by kernel_rfl
theorem fo49_1 : fldOk Tryz.prog 49 1 1 = true := by kernel_rfl
theorem fo49_4 : fldOk Tryz.prog 49 4 4 = true := by kernel_rfl
theorem fo51_0 : fldOk Tryz.prog 51 0 0 = true := by kernel_rfl
theorem fo51_1 : fldOk Tryz.prog 51 1 1 = true := by kernel_rfl
theorem fo53_0 : fldOk Tryz.prog 53 0 0 = true := by kernel_rfl
theorem fo53_1 : fldOk Tryz.prog 53 1 1 = true := by kernel_rfl
theorem fo53_2 : fldOk Tryz.prog 53 2 2 = true := by kernel_rfl
theorem fo53_3 : fldOk Tryz.prog 53 3 3 = true := by kernel_rfl
theorem fo53_4 : fldOk Tryz.prog 53 4 4 = true := by kernel_rfl
theorem fo53_5 : fldOk Tryz.prog 53 5 5 = true := by kernel_rfl
theorem fo53_6 : fldOk Tryz.prog 53 6 6 = true := by kernel_rfl
theorem fo53_7 : fldOk Tryz.prog 53 7 8 = true := by kernel_rfl
theorem fo53_8 : fldOk Tryz.prog 53 8 10 = true := by kernel_rfl
theorem fo169_1 : fldOk Tryz.prog 169 1 1 = true := by kernel_rfl
theorem fo171_0 : fldOk Tryz.prog 171 0 0 = true := by kernel_rfl
theorem fo171_2 : fldOk Tryz.prog 171 2 6 = true := by kernel_rfl
theorem fo171_4 : fldOk Tryz.prog 171 4 8 = true := by kernel_rfl
theorem pl23 : places Tryz.prog 23 = some [(0, 1), (1, 1), (2, 1), (3, 1)] := by kernel_rfl
theorem ia23 : infoAll Tryz.prog 23 = true := by kernel_rfl
theorem pl49 : places Tryz.prog 49 = some [(0, 1), (1, 1), (2, 1), (3, 1), (4, 1), (5, 1), (6, 1), (7, 1), (8, 4), (12, 1), (13, 1), (14, 1), (15, 2)] := by kernel_rfl
theorem ia49 : infoAll Tryz.prog 49 = true := by kernel_rfl
theorem pl51 : places Tryz.prog 51 = some [(0, 1), (1, 1)] := by kernel_rfl
theorem ia51 : infoAll Tryz.prog 51 = true := by kernel_rfl
theorem pl53 : places Tryz.prog 53 = some [(0, 1), (1, 1), (2, 1), (3, 1), (4, 1), (5, 1), (6, 2), (8, 2), (10, 2)] := by kernel_rfl
theorem ia53 : infoAll Tryz.prog 53 = true := by kernel_rfl
theorem pl171 : places Tryz.prog 171 = some [(0, 2), (2, 4), (6, 1), (7, 1), (8, 1)] := by kernel_rfl
theorem ia171 : infoAll Tryz.prog 171 = true := by kernel_rfl
theorem ar194 : arrOk Tryz.prog 194 4 3 = true := by kernel_rfl
theorem eqo3 : (eqOk Tryz.prog 5 3 && decide (5 ≤ 10000)) = true := by kernel_rfl
theorem fl3 : flat Tryz.prog 5 3 = [1] := by kernel_rfl
theorem eqo51 : (eqOk Tryz.prog 5 51 && decide (5 ≤ 10000)) = true := by kernel_rfl
theorem fl51 : flat Tryz.prog 5 51 = [1, 1] := by kernel_rfl
theorem eqo53 : (eqOk Tryz.prog 5 53 && decide (5 ≤ 10000)) = true := by kernel_rfl
theorem fl53 : flat Tryz.prog 5 53 = [1, 1, 2, 2, 2, 1, 1, 1, 1, 1, 1, 1] := by kernel_rfl
theorem eq51 : (eqOk Tryz.prog 5 51 && decide (5 ≤ 10000)) = true := eqo51
theorem eg51 : Tryz.prog.eqGuardType Tryz.prog.depth 51 = false := by kernel_rfl
theorem eq53 : (eqOk Tryz.prog 5 53 && decide (5 ≤ 10000)) = true := eqo53
theorem eg53 : Tryz.prog.eqGuardType Tryz.prog.depth 53 = false := by kernel_rfl
theorem mo : Tryz.prog.follows .mixedOrders = true := by kernel_rfl
end Go.Rse
