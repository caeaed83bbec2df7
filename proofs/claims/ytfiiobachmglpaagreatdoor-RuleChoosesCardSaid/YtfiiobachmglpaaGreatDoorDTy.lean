/-
  Closed facts on the types, fields and functions of the translation: printed by program (genty.py).
-/
import Derived.Test.YtfiiobachmglpaaGreatDoorProg
import Derived.Test.YtfiiobachmglpaaGreatDoorDLogA
import Derived.KernelRfl
namespace Go.Rse
open Go Go.Proofs
theorem ty3 : tyOk Tryz.prog 3 false 1 = true := by kernel_rfl
theorem ty4 : tyOk Tryz.prog 4 false 1 = true := by kernel_rfl
theorem ty23 : tyOk Tryz.prog 23 true 4 = true := by kernel_rfl
theorem ty24 : tyOk Tryz.prog 24 false 1 = true := by kernel_rfl
theorem ty27 : tyOk Tryz.prog 27 false 1 = true := by kernel_rfl
theorem ty28 : tyOk Tryz.prog 28 false 1 = true := by kernel_rfl
theorem ty37 : tyOk Tryz.prog 37 false 1 = true := by kernel_rfl
theorem ty39 : tyOk Tryz.prog 39 false 1 = true := by kernel_rfl
theorem ty41 : tyOk Tryz.prog 41 true 4 = true := by kernel_rfl
theorem ty55 : tyOk Tryz.prog 55 false 1 = true := by kernel_rfl
theorem ty60 : tyOk Tryz.prog 60 true 2 = true := by kernel_rfl
theorem ty62 : tyOk Tryz.prog 62 true 12 = true := by kernel_rfl
theorem ty67 : tyOk Tryz.prog 67 true 17 = true := by kernel_rfl
theorem ty74 : tyOk Tryz.prog 74 false 1 = true := by kernel_rfl
theorem ty96 : tyOk Tryz.prog 96 false 1 = true := by kernel_rfl
theorem ty104 : tyOk Tryz.prog 104 true 7 = true := by kernel_rfl
theorem ty113 : tyOk Tryz.prog 113 true 1 = true := by kernel_rfl
theorem ty132 : tyOk Tryz.prog 132 true 1 = true := by kernel_rfl
theorem ty135 : tyOk Tryz.prog 135 false 1 = true := by kernel_rfl
theorem ty139 : tyOk Tryz.prog 139 false 1 = true := by kernel_rfl
theorem ty176 : tyOk Tryz.prog 176 false 1 = true := by kernel_rfl
theorem ty178 : tyOk Tryz.prog 178 true 3 = true := by kernel_rfl
theorem ty179 : tyOk Tryz.prog 179 true 15 = true := by kernel_rfl
theorem ty184 : tyOk Tryz.prog 184 true 3 = true := by kernel_rfl
theorem ty192 : tyOk Tryz.prog 192 false 1 = true := by kernel_rfl
theorem ty209 : tyOk Tryz.prog 209 true 4 = true := by kernel_rfl
theorem ty216 : tyOk Tryz.prog 216 true 3 = true := by kernel_rfl
theorem ty242 : tyOk Tryz.prog 242 true 3 = true := by kernel_rfl
theorem ty243 : tyOk Tryz.prog 243 true 15 = true := by kernel_rfl
theorem ze3 : (Tryz.prog.info? 3).bind (·.zero) = some (.int .i64 0) := by kernel_rfl
theorem zc3 : zCells Tryz.prog 3 [.int .i64 0] := ⟨_, ze3, rfl⟩
theorem ze4 : (Tryz.prog.info? 4).bind (·.zero) = some (.bool false) := by kernel_rfl
theorem zc4 : zCells Tryz.prog 4 [.bool false] := ⟨_, ze4, rfl⟩
theorem ze23 : (Tryz.prog.info? 23).bind (·.zero) = some (.agg #[.int .i64 0, .int .i64 0, .int .i64 0, .int .i64 0]) := by kernel_rfl
theorem zc23 : zCells Tryz.prog 23 [.int .i64 0, .int .i64 0, .int .i64 0, .int .i64 0] := ⟨_, ze23, rfl⟩
theorem ze24 : (Tryz.prog.info? 24).bind (·.zero) = some (.slice none 0 0) := by kernel_rfl
theorem zc24 : zCells Tryz.prog 24 [.nils] := ⟨_, ze24, rfl⟩
theorem ze27 : (Tryz.prog.info? 27).bind (·.zero) = some (.slice none 0 0) := by kernel_rfl
theorem zc27 : zCells Tryz.prog 27 [.nils] := ⟨_, ze27, rfl⟩
theorem ze28 : (Tryz.prog.info? 28).bind (·.zero) = some (.int .i64 0) := by kernel_rfl
theorem zc28 : zCells Tryz.prog 28 [.int .i64 0] := ⟨_, ze28, rfl⟩
theorem ze41 : (Tryz.prog.info? 41).bind (·.zero) = some (.agg #[.slice none 0 0, .slice none 0 0, .slice none 0 0, .slice none 0 0]) := by kernel_rfl
theorem zc41 : zCells Tryz.prog 41 [.nils, .nils, .nils, .nils] := ⟨_, ze41, rfl⟩
theorem ze55 : (Tryz.prog.info? 55).bind (·.zero) = some (.slice none 0 0) := by kernel_rfl
theorem zc55 : zCells Tryz.prog 55 [.nils] := ⟨_, ze55, rfl⟩
theorem ze60 : (Tryz.prog.info? 60).bind (·.zero) = some (.agg #[.int .i64 0, .int .i64 0]) := by kernel_rfl
theorem zc60 : zCells Tryz.prog 60 [.int .i64 0, .int .i64 0] := ⟨_, ze60, rfl⟩
theorem ze62 : (Tryz.prog.info? 62).bind (·.zero) = some (.agg #[.int .i64 0, .int .i64 0, .bool false, .bool false, .bool false, .int .i64 0, .int .i64 0, .int .i64 0, .int .i64 0, .int .i64 0, .int .i64 0, .int .i64 0]) := by kernel_rfl
theorem zc62 : zCells Tryz.prog 62 [.int .i64 0, .int .i64 0, .bool false, .bool false, .bool false, .int .i64 0, .int .i64 0, .int .i64 0, .int .i64 0, .int .i64 0, .int .i64 0, .int .i64 0] := ⟨_, ze62, rfl⟩
theorem ze67 : (Tryz.prog.info? 67).bind (·.zero) = some (.agg #[.int .i64 0, .int .i64 0, .int .i64 0, .int .i64 0, .bool false, .int .i64 0, .bool false, .bool false, .int .i64 0, .int .i64 0, .int .i64 0, .int .i64 0, .bool false, .int .i64 0, .int .i64 0, .int .i64 0, .int .i64 0]) := by kernel_rfl
theorem zc67 : zCells Tryz.prog 67 [.int .i64 0, .int .i64 0, .int .i64 0, .int .i64 0, .bool false, .int .i64 0, .bool false, .bool false, .int .i64 0, .int .i64 0, .int .i64 0, .int .i64 0, .bool false, .int .i64 0, .int .i64 0, .int .i64 0, .int .i64 0] := ⟨_, ze67, rfl⟩
theorem ze74 : (Tryz.prog.info? 74).bind (·.zero) = some (.slice none 0 0) := by kernel_rfl
theorem zc74 : zCells Tryz.prog 74 [.nils] := ⟨_, ze74, rfl⟩
theorem ze96 : (Tryz.prog.info? 96).bind (·.zero) = some (.nilFunc) := by kernel_rfl
theorem zc96 : zCells Tryz.prog 96 [.nilf] := ⟨_, ze96, rfl⟩
theorem ze104 : (Tryz.prog.info? 104).bind (·.zero) = some (.agg #[.int .i64 0, .int .i64 0, .int .i64 0, .int .i64 0, .bool false, .int .i64 0, .int .i64 0]) := by kernel_rfl
theorem zc104 : zCells Tryz.prog 104 [.int .i64 0, .int .i64 0, .int .i64 0, .int .i64 0, .bool false, .int .i64 0, .int .i64 0] := ⟨_, ze104, rfl⟩
theorem ze113 : (Tryz.prog.info? 113).bind (·.zero) = some (.agg #[.int .i64 0]) := by kernel_rfl
theorem zc113 : zCells Tryz.prog 113 [.int .i64 0] := ⟨_, ze113, rfl⟩
theorem ze117 : (Tryz.prog.info? 117).bind (·.zero) = some (.agg #[.int .i64 0, .int .i64 0, .int .i64 0, .int .i64 0, .slice none 0 0, .slice none 0 0, .slice none 0 0]) := by kernel_rfl
theorem zc117 : zCells Tryz.prog 117 [.int .i64 0, .int .i64 0, .int .i64 0, .int .i64 0, .nils, .nils, .nils] := ⟨_, ze117, rfl⟩
theorem ze132 : (Tryz.prog.info? 132).bind (·.zero) = some (.agg #[.slice none 0 0]) := by kernel_rfl
theorem zc132 : zCells Tryz.prog 132 [.nils] := ⟨_, ze132, rfl⟩
theorem ze141 : (Tryz.prog.info? 141).bind (·.zero) = some (.agg #[.slice none 0 0, .int .i64 0, .int .i64 0, .int .i64 0, .map none]) := by kernel_rfl
theorem ze178 : (Tryz.prog.info? 178).bind (·.zero) = some (.agg #[.nilFunc, .int .i64 0, .int .i64 0]) := by kernel_rfl
theorem ze179 : (Tryz.prog.info? 179).bind (·.zero) = some (.agg #[.nilFunc, .int .i64 0, .int .i64 0, .nilFunc, .int .i64 0, .int .i64 0, .nilFunc, .int .i64 0, .int .i64 0, .nilFunc, .int .i64 0, .int .i64 0, .nilFunc, .int .i64 0, .int .i64 0]) := by kernel_rfl
theorem zc179 : zCells Tryz.prog 179 [.nilf, .int .i64 0, .int .i64 0, .nilf, .int .i64 0, .int .i64 0, .nilf, .int .i64 0, .int .i64 0, .nilf, .int .i64 0, .int .i64 0, .nilf, .int .i64 0, .int .i64 0] := ⟨_, ze179, rfl⟩
theorem ze184 : (Tryz.prog.info? 184).bind (·.zero) = some (.agg #[.int .i64 0, .int .i64 0, .int .i64 0]) := by kernel_rfl
theorem zc184 : zCells Tryz.prog 184 [.int .i64 0, .int .i64 0, .int .i64 0] := ⟨_, ze184, rfl⟩
theorem ze191 : (Tryz.prog.info? 191).bind (·.zero) = some (.agg #[.int .i64 0, .int .i64 0, .int .i64 0, .slice none 0 0, .slice none 0 0, .slice none 0 0, .slice none 0 0]) := by kernel_rfl
theorem zc191 : zCells Tryz.prog 191 [.int .i64 0, .int .i64 0, .int .i64 0, .nils, .nils, .nils, .nils] := ⟨_, ze191, rfl⟩
theorem ze194 : (Tryz.prog.info? 194).bind (·.zero) = some (.agg #[.int .i64 0, .int .i64 0, .int .i64 0, .int .i64 0, .int .i64 0, .int .i64 0]) := by kernel_rfl
theorem zc194 : zCells Tryz.prog 194 [.int .i64 0, .int .i64 0, .int .i64 0, .int .i64 0, .int .i64 0, .int .i64 0] := ⟨_, ze194, rfl⟩
theorem ze209 : (Tryz.prog.info? 209).bind (·.zero) = some (.agg #[.int .i64 0, .int .i64 0, .int .i64 0, .int .i64 0]) := by kernel_rfl
theorem zc209 : zCells Tryz.prog 209 [.int .i64 0, .int .i64 0, .int .i64 0, .int .i64 0] := ⟨_, ze209, rfl⟩
theorem ze216 : (Tryz.prog.info? 216).bind (·.zero) = some (.agg #[.int .i64 0, .int .i64 0, .bool false]) := by kernel_rfl
theorem zc216 : zCells Tryz.prog 216 [.int .i64 0, .int .i64 0, .bool false] := ⟨_, ze216, rfl⟩
theorem ze242 : (Tryz.prog.info? 242).bind (·.zero) = some (.agg #[.bool false, .bool false, .bool false]) := by kernel_rfl
theorem zc242 : zCells Tryz.prog 242 [.bool false, .bool false, .bool false] := ⟨_, ze242, rfl⟩
theorem ze243 : (Tryz.prog.info? 243).bind (·.zero) = some (.agg #[.bool false, .bool false, .bool false, .bool false, .bool false, .bool false, .bool false, .bool false, .bool false, .bool false, .bool false, .bool false, .bool false, .bool false, .bool false]) := by kernel_rfl
theorem zc243 : zCells Tryz.prog 243 [.bool false, .bool false, .bool false, .bool false, .bool false, .bool false, .bool false, .bool false, .bool false, .bool false, .bool false, .bool false, .bool false, .bool false, .bool false] := ⟨_, ze243, rfl⟩
theorem ti3 : TyInfo Tryz.prog 3 (.int .i64 0) 1 8 := zbo (by kernel_rfl) rfl
theorem ti4 : TyInfo Tryz.prog 4 (.bool false) 1 1 := zbo (by kernel_rfl) rfl
theorem ti27 : TyInfo Tryz.prog 27 (.slice none 0 0) 1 24 := zbo (by kernel_rfl) rfl
theorem ti60 : TyInfo Tryz.prog 60 (.agg #[.int .i64 0, .int .i64 0]) 2 16 := zbo (by kernel_rfl) rfl
theorem ti62 : TyInfo Tryz.prog 62 (.agg #[.int .i64 0, .int .i64 0, .bool false, .bool false, .bool false, .int .i64 0, .int .i64 0, .int .i64 0, .int .i64 0, .int .i64 0, .int .i64 0, .int .i64 0]) 12 80 := zbo (by kernel_rfl) rfl
theorem ti67 : TyInfo Tryz.prog 67 (.agg #[.int .i64 0, .int .i64 0, .int .i64 0, .int .i64 0, .bool false, .int .i64 0, .bool false, .bool false, .int .i64 0, .int .i64 0, .int .i64 0, .int .i64 0, .bool false, .int .i64 0, .int .i64 0, .int .i64 0, .int .i64 0]) 17 128 := zbo (by kernel_rfl) rfl
theorem ti104 : TyInfo Tryz.prog 104 (.agg #[.int .i64 0, .int .i64 0, .int .i64 0, .int .i64 0, .bool false, .int .i64 0, .int .i64 0]) 7 56 := zbo (by kernel_rfl) rfl
theorem ti184 : TyInfo Tryz.prog 184 (.agg #[.int .i64 0, .int .i64 0, .int .i64 0]) 3 24 := zbo (by kernel_rfl) rfl
theorem sl24 : slOk Tryz.prog 24 62 = true := by kernel_rfl
theorem sl27 : slOk Tryz.prog 27 3 = true := by kernel_rfl
theorem sl37 : slOk Tryz.prog 37 67 = true := by kernel_rfl
theorem sl39 : slOk Tryz.prog 39 60 = true := by kernel_rfl
theorem sl55 : slOk Tryz.prog 55 104 = true := by kernel_rfl
theorem sl74 : slOk Tryz.prog 74 4 = true := by kernel_rfl
theorem sl181 : slOk Tryz.prog 181 184 = true := by kernel_rfl
theorem sl199 : slOk Tryz.prog 199 27 = true := by kernel_rfl
theorem zom : fldOk Tryz.prog 23 0 0 = true := by kernel_rfl
theorem zon : fldOk Tryz.prog 23 1 1 = true := by kernel_rfl
theorem zoo : fldOk Tryz.prog 23 2 2 = true := by kernel_rfl
theorem zop : fldOk Tryz.prog 23 3 3 = true := by kernel_rfl
theorem zoq : fldOk Tryz.prog 41 3 3 = true := by kernel_rfl
theorem zor : fldOk Tryz.prog 60 0 0 = true := by kernel_rfl
theorem zos : fldOk Tryz.prog 60 1 1 = true := by kernel_rfl
theorem zot : fldOk Tryz.prog 62 1 1 = true := by kernel_rfl
theorem zou : fldOk Tryz.prog 62 2 2 = true := by kernel_rfl
theorem zov : fldOk Tryz.prog 62 3 3 = true := by kernel_rfl
theorem zow : fldOk Tryz.prog 62 4 4 = true := by kernel_rfl
theorem zox : fldOk Tryz.prog 62 5 5 = true := by kernel_rfl
theorem zoy : fldOk Tryz.prog 62 6 6 = true := by kernel_rfl
theorem zoz : fldOk Tryz.prog 62 7 8 = true := by kernel_rfl
theorem zoA : fldOk Tryz.prog 62 8 10 = true := by kernel_rfl
theorem zoB : fldOk Tryz.prog 67 0 0 = true := by kernel_rfl
theorem zoC : fldOk Tryz.prog 67 1 1 = true := by kernel_rfl
theorem zoD : fldOk Tryz.prog 67 4 4 = true := by kernel_rfl
theorem zmr : fldOk Tryz.prog 104 0 0 = true := by kernel_rfl
theorem zms : fldOk Tryz.prog 104 1 1 = true := by kernel_rfl
theorem zmt : fldOk Tryz.prog 104 2 2 = true := by kernel_rfl
theorem zmu : fldOk Tryz.prog 104 3 3 = true := by kernel_rfl
theorem zmv : fldOk Tryz.prog 104 4 4 = true := by kernel_rfl
theorem zmw : fldOk Tryz.prog 104 5 5 = true := by kernel_rfl
theorem zmx : fldOk Tryz.prog 113 0 0 = true := by kernel_rfl
theorem zmy : fldOk Tryz.prog 117 0 0 = true := by kernel_rfl
theorem zmz : fldOk Tryz.prog 117 1 4 = true := by kernel_rfl
theorem zmA : fldOk Tryz.prog 117 2 5 = true := by kernel_rfl
theorem zmB : fldOk Tryz.prog 117 3 6 = true := by kernel_rfl
theorem zmC : fldOk Tryz.prog 132 0 0 = true := by kernel_rfl
theorem zmD : fldOk Tryz.prog 141 0 0 = true := by kernel_rfl
theorem zmE : fldOk Tryz.prog 141 1 1 = true := by kernel_rfl
theorem zmF : fldOk Tryz.prog 141 2 2 = true := by kernel_rfl
theorem zmG : fldOk Tryz.prog 141 3 4 = true := by kernel_rfl
theorem zmH : fldOk Tryz.prog 178 0 0 = true := by kernel_rfl
theorem zmI : fldOk Tryz.prog 178 1 1 = true := by kernel_rfl
theorem zmJ : fldOk Tryz.prog 178 2 2 = true := by kernel_rfl
theorem zmK : fldOk Tryz.prog 184 0 0 = true := by kernel_rfl
theorem zmL : fldOk Tryz.prog 184 1 1 = true := by kernel_rfl
theorem zmM : fldOk Tryz.prog 184 2 2 = true := by kernel_rfl
theorem zmN : fldOk Tryz.prog 191 0 0 = true := by kernel_rfl
theorem zmO : fldOk Tryz.prog 191 1 2 = true := by kernel_rfl
theorem zmP : fldOk Tryz.prog 191 2 3 = true := by kernel_rfl
theorem zmQ : fldOk Tryz.prog 191 3 4 = true := by kernel_rfl
theorem zmR : fldOk Tryz.prog 191 4 5 = true := by kernel_rfl
theorem zmS : fldOk Tryz.prog 191 5 6 = true := by kernel_rfl
theorem zmT : fldOk Tryz.prog 216 0 0 = true := by kernel_rfl
theorem zmU : fldOk Tryz.prog 216 1 1 = true := by kernel_rfl
theorem zmV : fldOk Tryz.prog 216 2 2 = true := by kernel_rfl
theorem pl23 : places Tryz.prog 23 = some [(0, 1), (1, 1), (2, 1), (3, 1)] := by kernel_rfl
theorem ia23 : infoAll Tryz.prog 23 = true := by kernel_rfl
theorem pl41 : places Tryz.prog 41 = some [(0, 1), (1, 1), (2, 1), (3, 1)] := by kernel_rfl
theorem ia41 : infoAll Tryz.prog 41 = true := by kernel_rfl
theorem pl60 : places Tryz.prog 60 = some [(0, 1), (1, 1)] := by kernel_rfl
theorem ia60 : infoAll Tryz.prog 60 = true := by kernel_rfl
theorem pl62 : places Tryz.prog 62 = some [(0, 1), (1, 1), (2, 1), (3, 1), (4, 1), (5, 1), (6, 2), (8, 2), (10, 2)] := by kernel_rfl
theorem ia62 : infoAll Tryz.prog 62 = true := by kernel_rfl
theorem pl67 : places Tryz.prog 67 = some [(0, 1), (1, 1), (2, 1), (3, 1), (4, 1), (5, 1), (6, 1), (7, 1), (8, 4), (12, 1), (13, 1), (14, 1), (15, 2)] := by kernel_rfl
theorem ia67 : infoAll Tryz.prog 67 = true := by kernel_rfl
theorem pl104 : places Tryz.prog 104 = some [(0, 1), (1, 1), (2, 1), (3, 1), (4, 1), (5, 2)] := by kernel_rfl
theorem ia104 : infoAll Tryz.prog 104 = true := by kernel_rfl
theorem pl113 : places Tryz.prog 113 = some [(0, 1)] := by kernel_rfl
theorem ia113 : infoAll Tryz.prog 113 = true := by kernel_rfl
theorem pl117 : places Tryz.prog 117 = some [(0, 4), (4, 1), (5, 1), (6, 1)] := by kernel_rfl
theorem ia117 : infoAll Tryz.prog 117 = true := by kernel_rfl
theorem pl132 : places Tryz.prog 132 = some [(0, 1)] := by kernel_rfl
theorem ia132 : infoAll Tryz.prog 132 = true := by kernel_rfl
theorem pl141 : places Tryz.prog 141 = some [(0, 1), (1, 1), (2, 2), (4, 1)] := by kernel_rfl
theorem ia141 : infoAll Tryz.prog 141 = true := by kernel_rfl
theorem pl178 : places Tryz.prog 178 = some [(0, 1), (1, 1), (2, 1)] := by kernel_rfl
theorem ia178 : infoAll Tryz.prog 178 = true := by kernel_rfl
theorem pl184 : places Tryz.prog 184 = some [(0, 1), (1, 1), (2, 1)] := by kernel_rfl
theorem ia184 : infoAll Tryz.prog 184 = true := by kernel_rfl
theorem pl191 : places Tryz.prog 191 = some [(0, 2), (2, 1), (3, 1), (4, 1), (5, 1), (6, 1)] := by kernel_rfl
theorem ia191 : infoAll Tryz.prog 191 = true := by kernel_rfl
theorem pl216 : places Tryz.prog 216 = some [(0, 1), (1, 1), (2, 1)] := by kernel_rfl
theorem ia216 : infoAll Tryz.prog 216 = true := by kernel_rfl
theorem ar179 : arrOk Tryz.prog 179 5 178 = true := by kernel_rfl
theorem ar194 : arrOk Tryz.prog 194 3 60 = true := by kernel_rfl
theorem ar209 : arrOk Tryz.prog 209 4 3 = true := by kernel_rfl
theorem ar242 : arrOk Tryz.prog 242 3 4 = true := by kernel_rfl
theorem ar243 : arrOk Tryz.prog 243 5 242 = true := by kernel_rfl
theorem eqo3 : (eqOk Tryz.prog 5 3 && decide (5 <= 10000)) = true := by kernel_rfl
theorem fl3 : flat Tryz.prog 5 3 = [1] := by kernel_rfl
theorem eqo23 : (eqOk Tryz.prog 5 23 && decide (5 <= 10000)) = true := by kernel_rfl
theorem fl23 : flat Tryz.prog 5 23 = [1, 1, 1, 1] := by kernel_rfl
theorem eqo60 : (eqOk Tryz.prog 5 60 && decide (5 <= 10000)) = true := by kernel_rfl
theorem fl60 : flat Tryz.prog 5 60 = [1, 1] := by kernel_rfl
theorem eqo62 : (eqOk Tryz.prog 5 62 && decide (5 <= 10000)) = true := by kernel_rfl
theorem fl62 : flat Tryz.prog 5 62 = [1, 1, 2, 2, 2, 1, 1, 1, 1, 1, 1, 1] := by kernel_rfl
theorem eq60 : (eqOk Tryz.prog 5 60 && decide (5 <= 10000)) = true := eqo60
theorem eg60 : Tryz.prog.eqGuardType Tryz.prog.depth 60 = false := by kernel_rfl
theorem eq62 : (eqOk Tryz.prog 5 62 && decide (5 <= 10000)) = true := eqo62
theorem eg62 : Tryz.prog.eqGuardType Tryz.prog.depth 62 = false := by kernel_rfl
theorem mo : Tryz.prog.follows .mixedOrders = true := by kernel_rfl
end Go.Rse
