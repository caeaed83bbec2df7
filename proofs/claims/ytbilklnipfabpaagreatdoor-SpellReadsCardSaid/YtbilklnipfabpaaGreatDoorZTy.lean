/-
  zbU facts on the types, fields and functions of the translation: printed by program (genty.py).
-/
import Derived.Test.YtbilklnipfabpaaGreatDoorProg
import Derived.Test.YtbilklnipfabpaaGreatDoorZLogA
import Derived.KernelRfl
namespace Go.Rse
open Go Go.Proofs
theorem ty3 : tyOk Tryz.prog 3 false 1 = true := by kernel_rfl
theorem ty4 : tyOk Tryz.prog 4 false 1 = true := by kernel_rfl
theorem ty22 : tyOk Tryz.prog 22 false 1 = true := by kernel_rfl
theorem ty24 : tyOk Tryz.prog 24 true 4 = true := by kernel_rfl
theorem ty26 : tyOk Tryz.prog 26 false 1 = true := by kernel_rfl
theorem ty29 : tyOk Tryz.prog 29 false 1 = true := by kernel_rfl
theorem ty33 : tyOk Tryz.prog 33 false 1 = true := by kernel_rfl
theorem ty35 : tyOk Tryz.prog 35 true 4 = true := by kernel_rfl
theorem ty40 : tyOk Tryz.prog 40 true 17 = true := by kernel_rfl
theorem ty46 : tyOk Tryz.prog 46 true 2 = true := by kernel_rfl
theorem ty48 : tyOk Tryz.prog 48 true 5 = true := by kernel_rfl
theorem ty56 : tyOk Tryz.prog 56 false 1 = true := by kernel_rfl
theorem ty80 : tyOk Tryz.prog 80 false 1 = true := by kernel_rfl
theorem ty82 : tyOk Tryz.prog 82 true 4 = true := by kernel_rfl
theorem ty83 : tyOk Tryz.prog 83 true 36 = true := by kernel_rfl
theorem ty89 : tyOk Tryz.prog 89 false 1 = true := by kernel_rfl
theorem ty95 : tyOk Tryz.prog 95 true 12 = true := by kernel_rfl
theorem ty97 : tyOk Tryz.prog 97 false 1 = true := by kernel_rfl
theorem zll : tyOk Tryz.prog 124 true 3 = true := by kernel_rfl
theorem ztH : tyOk Tryz.prog 125 false 1 = true := by kernel_rfl
theorem zaa : tyOk Tryz.prog 138 false 1 = true := by kernel_rfl
theorem ztI : tyOk Tryz.prog 158 true 1 = true := by kernel_rfl
theorem znT : tyOk Tryz.prog 162 true 7 = true := by kernel_rfl
theorem ztJ : tyOk Tryz.prog 163 false 1 = true := by kernel_rfl
theorem ztK : tyOk Tryz.prog 167 false 1 = true := by kernel_rfl
theorem zqs : tyOk Tryz.prog 190 true 4 = true := by kernel_rfl
theorem ztL : tyOk Tryz.prog 193 false 1 = true := by kernel_rfl
theorem ztM : tyOk Tryz.prog 194 false 1 = true := by kernel_rfl
theorem ztN : tyOk Tryz.prog 196 false 1 = true := by kernel_rfl
theorem ztO : tyOk Tryz.prog 215 true 3 = true := by kernel_rfl
theorem ztP : tyOk Tryz.prog 256 true 3 = true := by kernel_rfl
theorem ztQ : tyOk Tryz.prog 258 true 15 = true := by kernel_rfl
theorem us3 : (Program.underlying Tryz.prog 3).isSome = true := by kernel_rfl
theorem ztR : (Program.underlying Tryz.prog 172).isSome = true := by kernel_rfl
theorem un3 : Program.underlying Tryz.prog 3 = some (.int .i64) := by kernel_rfl
theorem zqt : Program.underlying Tryz.prog 172 = some (.int .u64) := by kernel_rfl
theorem ze3 : (Tryz.prog.info? 3).bind (·.zero) = some (.int .i64 0) := by kernel_rfl
theorem zc3 : zp Tryz.prog 3 [.int .i64 0] := ⟨_, ze3, rfl⟩
theorem ze4 : (Tryz.prog.info? 4).bind (·.zero) = some (.bool false) := by kernel_rfl
theorem zc4 : zp Tryz.prog 4 [.bool false] := ⟨_, ze4, rfl⟩
theorem ze22 : (Tryz.prog.info? 22).bind (·.zero) = some (.slice none 0 0) := by kernel_rfl
theorem zc22 : zp Tryz.prog 22 [.nils] := ⟨_, ze22, rfl⟩
theorem ze24 : (Tryz.prog.info? 24).bind (·.zero) = some (.agg #[.int .i64 0, .int .i64 0, .int .i64 0, .int .i64 0]) := by kernel_rfl
theorem zc24 : zp Tryz.prog 24 [.int .i64 0, .int .i64 0, .int .i64 0, .int .i64 0] := ⟨_, ze24, rfl⟩
theorem ze29 : (Tryz.prog.info? 29).bind (·.zero) = some (.int .i64 0) := by kernel_rfl
theorem zc29 : zp Tryz.prog 29 [.int .i64 0] := ⟨_, ze29, rfl⟩
theorem ze33 : (Tryz.prog.info? 33).bind (·.zero) = some (.slice none 0 0) := by kernel_rfl
theorem zc33 : zp Tryz.prog 33 [.nils] := ⟨_, ze33, rfl⟩
theorem ze35 : (Tryz.prog.info? 35).bind (·.zero) = some (.agg #[.slice none 0 0, .slice none 0 0, .slice none 0 0, .slice none 0 0]) := by kernel_rfl
theorem zc35 : zp Tryz.prog 35 [.nils, .nils, .nils, .nils] := ⟨_, ze35, rfl⟩
theorem ze40 : (Tryz.prog.info? 40).bind (·.zero) = some (.agg #[.int .i64 0, .int .i64 0, .int .i64 0, .int .i64 0, .bool false, .int .i64 0, .bool false, .bool false, .int .i64 0, .int .i64 0, .int .i64 0, .int .i64 0, .bool false, .int .i64 0, .int .i64 0, .int .i64 0, .int .i64 0]) := by kernel_rfl
theorem zc40 : zp Tryz.prog 40 [.int .i64 0, .int .i64 0, .int .i64 0, .int .i64 0, .bool false, .int .i64 0, .bool false, .bool false, .int .i64 0, .int .i64 0, .int .i64 0, .int .i64 0, .bool false, .int .i64 0, .int .i64 0, .int .i64 0, .int .i64 0] := ⟨_, ze40, rfl⟩
theorem ze46 : (Tryz.prog.info? 46).bind (·.zero) = some (.agg #[.int .i64 0, .int .i64 0]) := by kernel_rfl
theorem zc46 : zp Tryz.prog 46 [.int .i64 0, .int .i64 0] := ⟨_, ze46, rfl⟩
theorem ze48 : (Tryz.prog.info? 48).bind (·.zero) = some (.agg #[.int .i64 0, .bool false, .bool false, .bool false, .int .i64 0]) := by kernel_rfl
theorem zc48 : zp Tryz.prog 48 [.int .i64 0, .bool false, .bool false, .bool false, .int .i64 0] := ⟨_, ze48, rfl⟩
theorem ze56 : (Tryz.prog.info? 56).bind (·.zero) = some (.nilFunc) := by kernel_rfl
theorem zc56 : zp Tryz.prog 56 [.nilf] := ⟨_, ze56, rfl⟩
theorem ze82 : (Tryz.prog.info? 82).bind (·.zero) = some (.agg #[.bool false, .bool false, .bool false, .nilFunc]) := by kernel_rfl
theorem zc82 : zp Tryz.prog 82 [.bool false, .bool false, .bool false, .nilf] := ⟨_, ze82, rfl⟩
theorem ze83 : (Tryz.prog.info? 83).bind (·.zero) = some (.agg #[.bool false, .bool false, .bool false, .nilFunc, .bool false, .bool false, .bool false, .nilFunc, .bool false, .bool false, .bool false, .nilFunc, .bool false, .bool false, .bool false, .nilFunc, .bool false, .bool false, .bool false, .nilFunc, .bool false, .bool false, .bool false, .nilFunc, .bool false, .bool false, .bool false, .nilFunc, .bool false, .bool false, .bool false, .nilFunc, .bool false, .bool false, .bool false, .nilFunc]) := by kernel_rfl
theorem zc83 : zp Tryz.prog 83 [.bool false, .bool false, .bool false, .nilf, .bool false, .bool false, .bool false, .nilf, .bool false, .bool false, .bool false, .nilf, .bool false, .bool false, .bool false, .nilf, .bool false, .bool false, .bool false, .nilf, .bool false, .bool false, .bool false, .nilf, .bool false, .bool false, .bool false, .nilf, .bool false, .bool false, .bool false, .nilf, .bool false, .bool false, .bool false, .nilf] := ⟨_, ze83, rfl⟩
theorem ze95 : (Tryz.prog.info? 95).bind (·.zero) = some (.agg #[.int .i64 0, .int .i64 0, .bool false, .bool false, .bool false, .int .i64 0, .int .i64 0, .int .i64 0, .int .i64 0, .int .i64 0, .int .i64 0, .int .i64 0]) := by kernel_rfl
theorem zc95 : zp Tryz.prog 95 [.int .i64 0, .int .i64 0, .bool false, .bool false, .bool false, .int .i64 0, .int .i64 0, .int .i64 0, .int .i64 0, .int .i64 0, .int .i64 0, .int .i64 0] := ⟨_, ze95, rfl⟩
theorem ze97 : (Tryz.prog.info? 97).bind (·.zero) = some (.slice none 0 0) := by kernel_rfl
theorem zc97 : zp Tryz.prog 97 [.nils] := ⟨_, ze97, rfl⟩
theorem zqu : (Tryz.prog.info? 124).bind (·.zero) = some (.agg #[.slice none 0 0, .slice none 0 0, .slice none 0 0]) := by kernel_rfl
theorem ztS : zp Tryz.prog 124 [.nils, .nils, .nils] := ⟨_, zqu, rfl⟩
theorem ztT : (Tryz.prog.info? 138).bind (·.zero) = some (.slice none 0 0) := by kernel_rfl
theorem ztU : zp Tryz.prog 138 [.nils] := ⟨_, ztT, rfl⟩
theorem ztV : (Tryz.prog.info? 158).bind (·.zero) = some (.agg #[.slice none 0 0]) := by kernel_rfl
theorem ztW : zp Tryz.prog 158 [.nils] := ⟨_, ztV, rfl⟩
theorem znU : (Tryz.prog.info? 162).bind (·.zero) = some (.agg #[.int .i64 0, .int .i64 0, .int .i64 0, .int .i64 0, .bool false, .int .i64 0, .int .i64 0]) := by kernel_rfl
theorem ztX : zp Tryz.prog 162 [.int .i64 0, .int .i64 0, .int .i64 0, .int .i64 0, .bool false, .int .i64 0, .int .i64 0] := ⟨_, znU, rfl⟩
theorem ztY : (Tryz.prog.info? 169).bind (·.zero) = some (.agg #[.slice none 0 0, .int .i64 0, .int .i64 0, .int .i64 0, .map none]) := by kernel_rfl
theorem ztZ : (Tryz.prog.info? 190).bind (·.zero) = some (.agg #[.int .i64 0, .int .i64 0, .int .i64 0, .int .i64 0]) := by kernel_rfl
theorem zt0 : zp Tryz.prog 190 [.int .i64 0, .int .i64 0, .int .i64 0, .int .i64 0] := ⟨_, ztZ, rfl⟩
theorem zt1 : (Tryz.prog.info? 193).bind (·.zero) = some (.nilFunc) := by kernel_rfl
theorem zt2 : zp Tryz.prog 193 [.nilf] := ⟨_, zt1, rfl⟩
theorem zt3 : (Tryz.prog.info? 207).bind (·.zero) = some (.agg #[.int .i64 0, .int .i64 0, .int .i64 0, .int .i64 0, .int .i64 0, .int .i64 0]) := by kernel_rfl
theorem zt4 : zp Tryz.prog 207 [.int .i64 0, .int .i64 0, .int .i64 0, .int .i64 0, .int .i64 0, .int .i64 0] := ⟨_, zt3, rfl⟩
theorem zt5 : (Tryz.prog.info? 215).bind (·.zero) = some (.agg #[.int .i64 0, .int .i64 0, .bool false]) := by kernel_rfl
theorem zt6 : zp Tryz.prog 215 [.int .i64 0, .int .i64 0, .bool false] := ⟨_, zt5, rfl⟩
theorem zt7 : (Tryz.prog.info? 256).bind (·.zero) = some (.agg #[.bool false, .bool false, .bool false]) := by kernel_rfl
theorem zt8 : zp Tryz.prog 256 [.bool false, .bool false, .bool false] := ⟨_, zt7, rfl⟩
theorem zt9 : (Tryz.prog.info? 258).bind (·.zero) = some (.agg #[.bool false, .bool false, .bool false, .bool false, .bool false, .bool false, .bool false, .bool false, .bool false, .bool false, .bool false, .bool false, .bool false, .bool false, .bool false]) := by kernel_rfl
theorem zqv : zp Tryz.prog 258 [.bool false, .bool false, .bool false, .bool false, .bool false, .bool false, .bool false, .bool false, .bool false, .bool false, .bool false, .bool false, .bool false, .bool false, .bool false] := ⟨_, zt9, rfl⟩
theorem ti3 : zX Tryz.prog 3 (.int .i64 0) 1 8 := zV (by kernel_rfl) rfl
theorem ti4 : zX Tryz.prog 4 (.bool false) 1 1 := zV (by kernel_rfl) rfl
theorem ti22 : zX Tryz.prog 22 (.slice none 0 0) 1 24 := zV (by kernel_rfl) rfl
theorem ti35 : zX Tryz.prog 35 (.agg #[.slice none 0 0, .slice none 0 0, .slice none 0 0, .slice none 0 0]) 4 96 := zV (by kernel_rfl) rfl
theorem ti40 : zX Tryz.prog 40 (.agg #[.int .i64 0, .int .i64 0, .int .i64 0, .int .i64 0, .bool false, .int .i64 0, .bool false, .bool false, .int .i64 0, .int .i64 0, .int .i64 0, .int .i64 0, .bool false, .int .i64 0, .int .i64 0, .int .i64 0, .int .i64 0]) 17 128 := zV (by kernel_rfl) rfl
theorem ti46 : zX Tryz.prog 46 (.agg #[.int .i64 0, .int .i64 0]) 2 16 := zV (by kernel_rfl) rfl
theorem ti48 : zX Tryz.prog 48 (.agg #[.int .i64 0, .bool false, .bool false, .bool false, .int .i64 0]) 5 24 := zV (by kernel_rfl) rfl
theorem ti95 : zX Tryz.prog 95 (.agg #[.int .i64 0, .int .i64 0, .bool false, .bool false, .bool false, .int .i64 0, .int .i64 0, .int .i64 0, .int .i64 0, .int .i64 0, .int .i64 0, .int .i64 0]) 12 80 := zV (by kernel_rfl) rfl
theorem zua : zX Tryz.prog 124 (.agg #[.slice none 0 0, .slice none 0 0, .slice none 0 0]) 3 72 := zV (by kernel_rfl) rfl
theorem zub : zX Tryz.prog 162 (.agg #[.int .i64 0, .int .i64 0, .int .i64 0, .int .i64 0, .bool false, .int .i64 0, .int .i64 0]) 7 56 := zV (by kernel_rfl) rfl
theorem sl22 : slOk Tryz.prog 22 3 = true := by kernel_rfl
theorem sl26 : slOk Tryz.prog 26 40 = true := by kernel_rfl
theorem sl28 : slOk Tryz.prog 28 35 = true := by kernel_rfl
theorem sl33 : slOk Tryz.prog 33 46 = true := by kernel_rfl
theorem sl42 : slOk Tryz.prog 42 48 = true := by kernel_rfl
theorem sl89 : slOk Tryz.prog 89 95 = true := by kernel_rfl
theorem sl97 : slOk Tryz.prog 97 162 = true := by kernel_rfl
theorem zuc : slOk Tryz.prog 125 124 = true := by kernel_rfl
theorem zaD : slOk Tryz.prog 138 4 = true := by kernel_rfl
theorem zqw : slOk Tryz.prog 196 22 = true := by kernel_rfl
theorem zrR : y9 Tryz.prog 24 0 0 = true := by kernel_rfl
theorem zrS : y9 Tryz.prog 24 1 1 = true := by kernel_rfl
theorem zrT : y9 Tryz.prog 24 2 2 = true := by kernel_rfl
theorem zrU : y9 Tryz.prog 24 3 3 = true := by kernel_rfl
theorem zrV : y9 Tryz.prog 35 0 0 = true := by kernel_rfl
theorem zrW : y9 Tryz.prog 35 3 3 = true := by kernel_rfl
theorem zrX : y9 Tryz.prog 40 0 0 = true := by kernel_rfl
theorem zrY : y9 Tryz.prog 40 1 1 = true := by kernel_rfl
theorem zrZ : y9 Tryz.prog 40 4 4 = true := by kernel_rfl
theorem zr0 : y9 Tryz.prog 46 0 0 = true := by kernel_rfl
theorem zr1 : y9 Tryz.prog 46 1 1 = true := by kernel_rfl
theorem zr2 : y9 Tryz.prog 48 0 0 = true := by kernel_rfl
theorem zr3 : y9 Tryz.prog 48 1 1 = true := by kernel_rfl
theorem zr4 : y9 Tryz.prog 48 2 2 = true := by kernel_rfl
theorem zr5 : y9 Tryz.prog 48 3 3 = true := by kernel_rfl
theorem zr6 : y9 Tryz.prog 82 0 0 = true := by kernel_rfl
theorem zr7 : y9 Tryz.prog 82 1 1 = true := by kernel_rfl
theorem zr8 : y9 Tryz.prog 82 2 2 = true := by kernel_rfl
theorem zr9 : y9 Tryz.prog 82 3 3 = true := by kernel_rfl
theorem zsa : y9 Tryz.prog 95 1 1 = true := by kernel_rfl
theorem zsb : y9 Tryz.prog 95 2 2 = true := by kernel_rfl
theorem zsc : y9 Tryz.prog 95 3 3 = true := by kernel_rfl
theorem zsd : y9 Tryz.prog 95 4 4 = true := by kernel_rfl
theorem zse : y9 Tryz.prog 95 5 5 = true := by kernel_rfl
theorem zsf : y9 Tryz.prog 95 6 6 = true := by kernel_rfl
theorem zsg : y9 Tryz.prog 95 7 8 = true := by kernel_rfl
theorem zsh : y9 Tryz.prog 95 8 10 = true := by kernel_rfl
theorem zpB : y9 Tryz.prog 124 0 0 = true := by kernel_rfl
theorem zpC : y9 Tryz.prog 124 1 1 = true := by kernel_rfl
theorem zpD : y9 Tryz.prog 124 2 2 = true := by kernel_rfl
theorem zpE : y9 Tryz.prog 158 0 0 = true := by kernel_rfl
theorem zpF : y9 Tryz.prog 162 0 0 = true := by kernel_rfl
theorem zpG : y9 Tryz.prog 162 1 1 = true := by kernel_rfl
theorem zpH : y9 Tryz.prog 162 2 2 = true := by kernel_rfl
theorem zpI : y9 Tryz.prog 162 3 3 = true := by kernel_rfl
theorem zpJ : y9 Tryz.prog 162 4 4 = true := by kernel_rfl
theorem zpK : y9 Tryz.prog 162 5 5 = true := by kernel_rfl
theorem zpL : y9 Tryz.prog 169 0 0 = true := by kernel_rfl
theorem zpM : y9 Tryz.prog 169 1 1 = true := by kernel_rfl
theorem zpN : y9 Tryz.prog 169 2 2 = true := by kernel_rfl
theorem zpO : y9 Tryz.prog 169 3 4 = true := by kernel_rfl
theorem zpP : y9 Tryz.prog 215 0 0 = true := by kernel_rfl
theorem zpQ : y9 Tryz.prog 215 1 1 = true := by kernel_rfl
theorem zpR : y9 Tryz.prog 215 2 2 = true := by kernel_rfl
theorem pl24 : zat Tryz.prog 24 = some [(0, 1), (1, 1), (2, 1), (3, 1)] := by kernel_rfl
theorem ia24 : zQ Tryz.prog 24 = true := by kernel_rfl
theorem pl35 : zat Tryz.prog 35 = some [(0, 1), (1, 1), (2, 1), (3, 1)] := by kernel_rfl
theorem ia35 : zQ Tryz.prog 35 = true := by kernel_rfl
theorem pl40 : zat Tryz.prog 40 = some [(0, 1), (1, 1), (2, 1), (3, 1), (4, 1), (5, 1), (6, 1), (7, 1), (8, 4), (12, 1), (13, 1), (14, 1), (15, 2)] := by kernel_rfl
theorem ia40 : zQ Tryz.prog 40 = true := by kernel_rfl
theorem pl46 : zat Tryz.prog 46 = some [(0, 1), (1, 1)] := by kernel_rfl
theorem ia46 : zQ Tryz.prog 46 = true := by kernel_rfl
theorem pl48 : zat Tryz.prog 48 = some [(0, 1), (1, 1), (2, 1), (3, 1), (4, 1)] := by kernel_rfl
theorem ia48 : zQ Tryz.prog 48 = true := by kernel_rfl
theorem pl82 : zat Tryz.prog 82 = some [(0, 1), (1, 1), (2, 1), (3, 1)] := by kernel_rfl
theorem ia82 : zQ Tryz.prog 82 = true := by kernel_rfl
theorem pl95 : zat Tryz.prog 95 = some [(0, 1), (1, 1), (2, 1), (3, 1), (4, 1), (5, 1), (6, 2), (8, 2), (10, 2)] := by kernel_rfl
theorem ia95 : zQ Tryz.prog 95 = true := by kernel_rfl
theorem zud : zat Tryz.prog 124 = some [(0, 1), (1, 1), (2, 1)] := by kernel_rfl
theorem zue : zQ Tryz.prog 124 = true := by kernel_rfl
theorem zuf : zat Tryz.prog 158 = some [(0, 1)] := by kernel_rfl
theorem zug : zQ Tryz.prog 158 = true := by kernel_rfl
theorem zuh : zat Tryz.prog 162 = some [(0, 1), (1, 1), (2, 1), (3, 1), (4, 1), (5, 2)] := by kernel_rfl
theorem zui : zQ Tryz.prog 162 = true := by kernel_rfl
theorem zuj : zat Tryz.prog 169 = some [(0, 1), (1, 1), (2, 2), (4, 1)] := by kernel_rfl
theorem zuk : zQ Tryz.prog 169 = true := by kernel_rfl
theorem zul : zat Tryz.prog 215 = some [(0, 1), (1, 1), (2, 1)] := by kernel_rfl
theorem zum : zQ Tryz.prog 215 = true := by kernel_rfl
theorem ar83 : zcE Tryz.prog 83 9 82 = true := by kernel_rfl
theorem znV : zcE Tryz.prog 190 4 3 = true := by kernel_rfl
theorem zun : zcE Tryz.prog 207 3 46 = true := by kernel_rfl
theorem zuo : zcE Tryz.prog 256 3 4 = true := by kernel_rfl
theorem zup : zcE Tryz.prog 258 5 256 = true := by kernel_rfl
theorem zuq : (eqOk Tryz.prog 5 46 && decide (5 <= 10000)) = true := by kernel_rfl
theorem fl46 : flat Tryz.prog 5 46 = [1, 1] := by kernel_rfl
theorem zur : (eqOk Tryz.prog 5 48 && decide (5 <= 10000)) = true := by kernel_rfl
theorem fl48 : flat Tryz.prog 5 48 = [1, 2, 2, 2, 1] := by kernel_rfl
theorem eq46 : (eqOk Tryz.prog 5 46 && decide (5 <= 10000)) = true := zuq
theorem eg46 : Tryz.prog.eqGuardType Tryz.prog.depth 46 = false := by kernel_rfl
theorem eq48 : (eqOk Tryz.prog 5 48 && decide (5 <= 10000)) = true := zur
theorem eg48 : Tryz.prog.eqGuardType Tryz.prog.depth 48 = false := by kernel_rfl
theorem mo : Tryz.prog.follows .mixedOrders = true := by kernel_rfl
end Go.Rse
