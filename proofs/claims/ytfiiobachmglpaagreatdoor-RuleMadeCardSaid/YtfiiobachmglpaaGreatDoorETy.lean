/-
  zcx facts on the types, fields and functions of the translation: printed by program (genty.py).
-/
import Derived.Test.YtfiiobachmglpaaGreatDoorProg
import Derived.Test.YtfiiobachmglpaaGreatDoorELogA
import Derived.KernelRfl
namespace Go.Rse
open Go Go.Proofs
theorem ty3 : tyOk Tryz.prog 3 false 1 = true := by kernel_rfl
theorem ty4 : tyOk Tryz.prog 4 false 1 = true := by kernel_rfl
theorem ty23 : tyOk Tryz.prog 23 true 4 = true := by kernel_rfl
theorem ty24 : tyOk Tryz.prog 24 false 1 = true := by kernel_rfl
theorem ty27 : tyOk Tryz.prog 27 false 1 = true := by kernel_rfl
theorem ty28 : tyOk Tryz.prog 28 false 1 = true := by kernel_rfl
theorem ty37 : tyOk Tryz.prog 37 false 1 = true := by kernel_rfl
theorem ty39 : tyOk Tryz.prog 39 false 1 = true := by kernel_rfl
theorem ty41 : tyOk Tryz.prog 41 true 4 = true := by kernel_rfl
theorem ty55 : tyOk Tryz.prog 55 false 1 = true := by kernel_rfl
theorem ty60 : tyOk Tryz.prog 60 true 2 = true := by kernel_rfl
theorem ty62 : tyOk Tryz.prog 62 true 12 = true := by kernel_rfl
theorem ty67 : tyOk Tryz.prog 67 true 17 = true := by kernel_rfl
theorem ty74 : tyOk Tryz.prog 74 false 1 = true := by kernel_rfl
theorem ty96 : tyOk Tryz.prog 96 false 1 = true := by kernel_rfl
theorem zn3 : tyOk Tryz.prog 104 true 7 = true := by kernel_rfl
theorem zs3 : tyOk Tryz.prog 113 true 1 = true := by kernel_rfl
theorem zs4 : tyOk Tryz.prog 132 true 1 = true := by kernel_rfl
theorem zs5 : tyOk Tryz.prog 135 false 1 = true := by kernel_rfl
theorem zs6 : tyOk Tryz.prog 139 false 1 = true := by kernel_rfl
theorem zs7 : tyOk Tryz.prog 176 false 1 = true := by kernel_rfl
theorem zs8 : tyOk Tryz.prog 178 true 3 = true := by kernel_rfl
theorem zqg : tyOk Tryz.prog 179 true 15 = true := by kernel_rfl
theorem zs9 : tyOk Tryz.prog 184 true 3 = true := by kernel_rfl
theorem zta : tyOk Tryz.prog 192 false 1 = true := by kernel_rfl
theorem zqh : tyOk Tryz.prog 209 true 4 = true := by kernel_rfl
theorem ztb : tyOk Tryz.prog 216 true 3 = true := by kernel_rfl
theorem ztc : tyOk Tryz.prog 242 true 3 = true := by kernel_rfl
theorem ztd : tyOk Tryz.prog 243 true 15 = true := by kernel_rfl
theorem ze3 : (Tryz.prog.info? 3).bind (·.zero) = some (.int .i64 0) := by kernel_rfl
theorem zc3 : zw Tryz.prog 3 [.int .i64 0] := ⟨_, ze3, rfl⟩
theorem ze4 : (Tryz.prog.info? 4).bind (·.zero) = some (.bool false) := by kernel_rfl
theorem zc4 : zw Tryz.prog 4 [.bool false] := ⟨_, ze4, rfl⟩
theorem ze23 : (Tryz.prog.info? 23).bind (·.zero) = some (.agg #[.int .i64 0, .int .i64 0, .int .i64 0, .int .i64 0]) := by kernel_rfl
theorem zc23 : zw Tryz.prog 23 [.int .i64 0, .int .i64 0, .int .i64 0, .int .i64 0] := ⟨_, ze23, rfl⟩
theorem ze24 : (Tryz.prog.info? 24).bind (·.zero) = some (.slice none 0 0) := by kernel_rfl
theorem zc24 : zw Tryz.prog 24 [.nils] := ⟨_, ze24, rfl⟩
theorem ze27 : (Tryz.prog.info? 27).bind (·.zero) = some (.slice none 0 0) := by kernel_rfl
theorem zc27 : zw Tryz.prog 27 [.nils] := ⟨_, ze27, rfl⟩
theorem ze28 : (Tryz.prog.info? 28).bind (·.zero) = some (.int .i64 0) := by kernel_rfl
theorem zc28 : zw Tryz.prog 28 [.int .i64 0] := ⟨_, ze28, rfl⟩
theorem ze41 : (Tryz.prog.info? 41).bind (·.zero) = some (.agg #[.slice none 0 0, .slice none 0 0, .slice none 0 0, .slice none 0 0]) := by kernel_rfl
theorem zc41 : zw Tryz.prog 41 [.nils, .nils, .nils, .nils] := ⟨_, ze41, rfl⟩
theorem ze55 : (Tryz.prog.info? 55).bind (·.zero) = some (.slice none 0 0) := by kernel_rfl
theorem zc55 : zw Tryz.prog 55 [.nils] := ⟨_, ze55, rfl⟩
theorem ze60 : (Tryz.prog.info? 60).bind (·.zero) = some (.agg #[.int .i64 0, .int .i64 0]) := by kernel_rfl
theorem zc60 : zw Tryz.prog 60 [.int .i64 0, .int .i64 0] := ⟨_, ze60, rfl⟩
theorem ze62 : (Tryz.prog.info? 62).bind (·.zero) = some (.agg #[.int .i64 0, .int .i64 0, .bool false, .bool false, .bool false, .int .i64 0, .int .i64 0, .int .i64 0, .int .i64 0, .int .i64 0, .int .i64 0, .int .i64 0]) := by kernel_rfl
theorem zc62 : zw Tryz.prog 62 [.int .i64 0, .int .i64 0, .bool false, .bool false, .bool false, .int .i64 0, .int .i64 0, .int .i64 0, .int .i64 0, .int .i64 0, .int .i64 0, .int .i64 0] := ⟨_, ze62, rfl⟩
theorem ze67 : (Tryz.prog.info? 67).bind (·.zero) = some (.agg #[.int .i64 0, .int .i64 0, .int .i64 0, .int .i64 0, .bool false, .int .i64 0, .bool false, .bool false, .int .i64 0, .int .i64 0, .int .i64 0, .int .i64 0, .bool false, .int .i64 0, .int .i64 0, .int .i64 0, .int .i64 0]) := by kernel_rfl
theorem zc67 : zw Tryz.prog 67 [.int .i64 0, .int .i64 0, .int .i64 0, .int .i64 0, .bool false, .int .i64 0, .bool false, .bool false, .int .i64 0, .int .i64 0, .int .i64 0, .int .i64 0, .bool false, .int .i64 0, .int .i64 0, .int .i64 0, .int .i64 0] := ⟨_, ze67, rfl⟩
theorem ze74 : (Tryz.prog.info? 74).bind (·.zero) = some (.slice none 0 0) := by kernel_rfl
theorem zc74 : zw Tryz.prog 74 [.nils] := ⟨_, ze74, rfl⟩
theorem ze96 : (Tryz.prog.info? 96).bind (·.zero) = some (.nilFunc) := by kernel_rfl
theorem zc96 : zw Tryz.prog 96 [.nilf] := ⟨_, ze96, rfl⟩
theorem zl1 : (Tryz.prog.info? 104).bind (·.zero) = some (.agg #[.int .i64 0, .int .i64 0, .int .i64 0, .int .i64 0, .bool false, .int .i64 0, .int .i64 0]) := by kernel_rfl
theorem zn4 : zw Tryz.prog 104 [.int .i64 0, .int .i64 0, .int .i64 0, .int .i64 0, .bool false, .int .i64 0, .int .i64 0] := ⟨_, zl1, rfl⟩
theorem zte : (Tryz.prog.info? 113).bind (·.zero) = some (.agg #[.int .i64 0]) := by kernel_rfl
theorem ztf : zw Tryz.prog 113 [.int .i64 0] := ⟨_, zte, rfl⟩
theorem ztg : (Tryz.prog.info? 117).bind (·.zero) = some (.agg #[.int .i64 0, .int .i64 0, .int .i64 0, .int .i64 0, .slice none 0 0, .slice none 0 0, .slice none 0 0]) := by kernel_rfl
theorem zth : zw Tryz.prog 117 [.int .i64 0, .int .i64 0, .int .i64 0, .int .i64 0, .nils, .nils, .nils] := ⟨_, ztg, rfl⟩
theorem zti : (Tryz.prog.info? 132).bind (·.zero) = some (.agg #[.slice none 0 0]) := by kernel_rfl
theorem ztj : zw Tryz.prog 132 [.nils] := ⟨_, zti, rfl⟩
theorem ztk : (Tryz.prog.info? 141).bind (·.zero) = some (.agg #[.slice none 0 0, .int .i64 0, .int .i64 0, .int .i64 0, .map none]) := by kernel_rfl
theorem ztl : (Tryz.prog.info? 178).bind (·.zero) = some (.agg #[.nilFunc, .int .i64 0, .int .i64 0]) := by kernel_rfl
theorem ztm : (Tryz.prog.info? 179).bind (·.zero) = some (.agg #[.nilFunc, .int .i64 0, .int .i64 0, .nilFunc, .int .i64 0, .int .i64 0, .nilFunc, .int .i64 0, .int .i64 0, .nilFunc, .int .i64 0, .int .i64 0, .nilFunc, .int .i64 0, .int .i64 0]) := by kernel_rfl
theorem ztn : zw Tryz.prog 179 [.nilf, .int .i64 0, .int .i64 0, .nilf, .int .i64 0, .int .i64 0, .nilf, .int .i64 0, .int .i64 0, .nilf, .int .i64 0, .int .i64 0, .nilf, .int .i64 0, .int .i64 0] := ⟨_, ztm, rfl⟩
theorem zqi : (Tryz.prog.info? 184).bind (·.zero) = some (.agg #[.int .i64 0, .int .i64 0, .int .i64 0]) := by kernel_rfl
theorem zto : zw Tryz.prog 184 [.int .i64 0, .int .i64 0, .int .i64 0] := ⟨_, zqi, rfl⟩
theorem ztp : (Tryz.prog.info? 191).bind (·.zero) = some (.agg #[.int .i64 0, .int .i64 0, .int .i64 0, .slice none 0 0, .slice none 0 0, .slice none 0 0, .slice none 0 0]) := by kernel_rfl
theorem ztq : zw Tryz.prog 191 [.int .i64 0, .int .i64 0, .int .i64 0, .nils, .nils, .nils, .nils] := ⟨_, ztp, rfl⟩
theorem ztr : (Tryz.prog.info? 194).bind (·.zero) = some (.agg #[.int .i64 0, .int .i64 0, .int .i64 0, .int .i64 0, .int .i64 0, .int .i64 0]) := by kernel_rfl
theorem zts : zw Tryz.prog 194 [.int .i64 0, .int .i64 0, .int .i64 0, .int .i64 0, .int .i64 0, .int .i64 0] := ⟨_, ztr, rfl⟩
theorem ztt : (Tryz.prog.info? 209).bind (·.zero) = some (.agg #[.int .i64 0, .int .i64 0, .int .i64 0, .int .i64 0]) := by kernel_rfl
theorem ztu : zw Tryz.prog 209 [.int .i64 0, .int .i64 0, .int .i64 0, .int .i64 0] := ⟨_, ztt, rfl⟩
theorem ztv : (Tryz.prog.info? 216).bind (·.zero) = some (.agg #[.int .i64 0, .int .i64 0, .bool false]) := by kernel_rfl
theorem ztw : zw Tryz.prog 216 [.int .i64 0, .int .i64 0, .bool false] := ⟨_, ztv, rfl⟩
theorem ztx : (Tryz.prog.info? 242).bind (·.zero) = some (.agg #[.bool false, .bool false, .bool false]) := by kernel_rfl
theorem zty : zw Tryz.prog 242 [.bool false, .bool false, .bool false] := ⟨_, ztx, rfl⟩
theorem ztz : (Tryz.prog.info? 243).bind (·.zero) = some (.agg #[.bool false, .bool false, .bool false, .bool false, .bool false, .bool false, .bool false, .bool false, .bool false, .bool false, .bool false, .bool false, .bool false, .bool false, .bool false]) := by kernel_rfl
theorem zqj : zw Tryz.prog 243 [.bool false, .bool false, .bool false, .bool false, .bool false, .bool false, .bool false, .bool false, .bool false, .bool false, .bool false, .bool false, .bool false, .bool false, .bool false] := ⟨_, ztz, rfl⟩
theorem ti3 : zaR Tryz.prog 3 (.int .i64 0) 1 8 := za2 (by kernel_rfl) rfl
theorem ti4 : zaR Tryz.prog 4 (.bool false) 1 1 := za2 (by kernel_rfl) rfl
theorem ti27 : zaR Tryz.prog 27 (.slice none 0 0) 1 24 := za2 (by kernel_rfl) rfl
theorem ti60 : zaR Tryz.prog 60 (.agg #[.int .i64 0, .int .i64 0]) 2 16 := za2 (by kernel_rfl) rfl
theorem ti62 : zaR Tryz.prog 62 (.agg #[.int .i64 0, .int .i64 0, .bool false, .bool false, .bool false, .int .i64 0, .int .i64 0, .int .i64 0, .int .i64 0, .int .i64 0, .int .i64 0, .int .i64 0]) 12 80 := za2 (by kernel_rfl) rfl
theorem ti67 : zaR Tryz.prog 67 (.agg #[.int .i64 0, .int .i64 0, .int .i64 0, .int .i64 0, .bool false, .int .i64 0, .bool false, .bool false, .int .i64 0, .int .i64 0, .int .i64 0, .int .i64 0, .bool false, .int .i64 0, .int .i64 0, .int .i64 0, .int .i64 0]) 17 128 := za2 (by kernel_rfl) rfl
theorem ztA : zaR Tryz.prog 104 (.agg #[.int .i64 0, .int .i64 0, .int .i64 0, .int .i64 0, .bool false, .int .i64 0, .int .i64 0]) 7 56 := za2 (by kernel_rfl) rfl
theorem ztB : zaR Tryz.prog 184 (.agg #[.int .i64 0, .int .i64 0, .int .i64 0]) 3 24 := za2 (by kernel_rfl) rfl
theorem sl24 : slOk Tryz.prog 24 62 = true := by kernel_rfl
theorem sl27 : slOk Tryz.prog 27 3 = true := by kernel_rfl
theorem sl37 : slOk Tryz.prog 37 67 = true := by kernel_rfl
theorem sl39 : slOk Tryz.prog 39 60 = true := by kernel_rfl
theorem sl55 : slOk Tryz.prog 55 104 = true := by kernel_rfl
theorem sl74 : slOk Tryz.prog 74 4 = true := by kernel_rfl
theorem ztC : slOk Tryz.prog 181 184 = true := by kernel_rfl
theorem zqk : slOk Tryz.prog 199 27 = true := by kernel_rfl
theorem zrE : y9 Tryz.prog 23 0 0 = true := by kernel_rfl
theorem zrF : y9 Tryz.prog 23 1 1 = true := by kernel_rfl
theorem zrG : y9 Tryz.prog 23 2 2 = true := by kernel_rfl
theorem zrH : y9 Tryz.prog 23 3 3 = true := by kernel_rfl
theorem zrI : y9 Tryz.prog 41 0 0 = true := by kernel_rfl
theorem zrJ : y9 Tryz.prog 41 1 1 = true := by kernel_rfl
theorem zrK : y9 Tryz.prog 41 2 2 = true := by kernel_rfl
theorem zrL : y9 Tryz.prog 41 3 3 = true := by kernel_rfl
theorem zrM : y9 Tryz.prog 60 0 0 = true := by kernel_rfl
theorem zrN : y9 Tryz.prog 60 1 1 = true := by kernel_rfl
theorem zrO : y9 Tryz.prog 62 1 1 = true := by kernel_rfl
theorem zrP : y9 Tryz.prog 62 2 2 = true := by kernel_rfl
theorem zrQ : y9 Tryz.prog 62 3 3 = true := by kernel_rfl
theorem zrR : y9 Tryz.prog 62 4 4 = true := by kernel_rfl
theorem zrS : y9 Tryz.prog 62 5 5 = true := by kernel_rfl
theorem zrT : y9 Tryz.prog 62 6 6 = true := by kernel_rfl
theorem zrU : y9 Tryz.prog 62 7 8 = true := by kernel_rfl
theorem zrV : y9 Tryz.prog 62 8 10 = true := by kernel_rfl
theorem zrW : y9 Tryz.prog 67 0 0 = true := by kernel_rfl
theorem zrX : y9 Tryz.prog 67 1 1 = true := by kernel_rfl
theorem zrY : y9 Tryz.prog 67 4 4 = true := by kernel_rfl
theorem zo9 : y9 Tryz.prog 104 0 0 = true := by kernel_rfl
theorem zpa : y9 Tryz.prog 104 1 1 = true := by kernel_rfl
theorem zpb : y9 Tryz.prog 104 2 2 = true := by kernel_rfl
theorem zpc : y9 Tryz.prog 104 3 3 = true := by kernel_rfl
theorem zpd : y9 Tryz.prog 104 4 4 = true := by kernel_rfl
theorem zpe : y9 Tryz.prog 104 5 5 = true := by kernel_rfl
theorem zpf : y9 Tryz.prog 113 0 0 = true := by kernel_rfl
theorem zpg : y9 Tryz.prog 117 0 0 = true := by kernel_rfl
theorem zph : y9 Tryz.prog 117 1 4 = true := by kernel_rfl
theorem zpi : y9 Tryz.prog 117 2 5 = true := by kernel_rfl
theorem zpj : y9 Tryz.prog 117 3 6 = true := by kernel_rfl
theorem zpk : y9 Tryz.prog 132 0 0 = true := by kernel_rfl
theorem zpl : y9 Tryz.prog 141 0 0 = true := by kernel_rfl
theorem zpm : y9 Tryz.prog 141 1 1 = true := by kernel_rfl
theorem zpn : y9 Tryz.prog 141 2 2 = true := by kernel_rfl
theorem zpo : y9 Tryz.prog 141 3 4 = true := by kernel_rfl
theorem zpp : y9 Tryz.prog 178 0 0 = true := by kernel_rfl
theorem zpq : y9 Tryz.prog 178 1 1 = true := by kernel_rfl
theorem zpr : y9 Tryz.prog 178 2 2 = true := by kernel_rfl
theorem zps : y9 Tryz.prog 184 0 0 = true := by kernel_rfl
theorem zpt : y9 Tryz.prog 184 1 1 = true := by kernel_rfl
theorem zpu : y9 Tryz.prog 184 2 2 = true := by kernel_rfl
theorem zpv : y9 Tryz.prog 191 0 0 = true := by kernel_rfl
theorem zpw : y9 Tryz.prog 191 1 2 = true := by kernel_rfl
theorem zpx : y9 Tryz.prog 191 2 3 = true := by kernel_rfl
theorem zpy : y9 Tryz.prog 191 3 4 = true := by kernel_rfl
theorem zpz : y9 Tryz.prog 191 4 5 = true := by kernel_rfl
theorem zpA : y9 Tryz.prog 191 5 6 = true := by kernel_rfl
theorem zpB : y9 Tryz.prog 216 0 0 = true := by kernel_rfl
theorem zpC : y9 Tryz.prog 216 1 1 = true := by kernel_rfl
theorem zpD : y9 Tryz.prog 216 2 2 = true := by kernel_rfl
theorem pl23 : zau Tryz.prog 23 = some [(0, 1), (1, 1), (2, 1), (3, 1)] := by kernel_rfl
theorem ia23 : zO Tryz.prog 23 = true := by kernel_rfl
theorem pl41 : zau Tryz.prog 41 = some [(0, 1), (1, 1), (2, 1), (3, 1)] := by kernel_rfl
theorem ia41 : zO Tryz.prog 41 = true := by kernel_rfl
theorem pl60 : zau Tryz.prog 60 = some [(0, 1), (1, 1)] := by kernel_rfl
theorem ia60 : zO Tryz.prog 60 = true := by kernel_rfl
theorem pl62 : zau Tryz.prog 62 = some [(0, 1), (1, 1), (2, 1), (3, 1), (4, 1), (5, 1), (6, 2), (8, 2), (10, 2)] := by kernel_rfl
theorem ia62 : zO Tryz.prog 62 = true := by kernel_rfl
theorem pl67 : zau Tryz.prog 67 = some [(0, 1), (1, 1), (2, 1), (3, 1), (4, 1), (5, 1), (6, 1), (7, 1), (8, 4), (12, 1), (13, 1), (14, 1), (15, 2)] := by kernel_rfl
theorem ia67 : zO Tryz.prog 67 = true := by kernel_rfl
theorem ztD : zau Tryz.prog 104 = some [(0, 1), (1, 1), (2, 1), (3, 1), (4, 1), (5, 2)] := by kernel_rfl
theorem ztE : zO Tryz.prog 104 = true := by kernel_rfl
theorem ztF : zau Tryz.prog 113 = some [(0, 1)] := by kernel_rfl
theorem ztG : zO Tryz.prog 113 = true := by kernel_rfl
theorem ztH : zau Tryz.prog 117 = some [(0, 4), (4, 1), (5, 1), (6, 1)] := by kernel_rfl
theorem ztI : zO Tryz.prog 117 = true := by kernel_rfl
theorem ztJ : zau Tryz.prog 132 = some [(0, 1)] := by kernel_rfl
theorem ztK : zO Tryz.prog 132 = true := by kernel_rfl
theorem ztL : zau Tryz.prog 141 = some [(0, 1), (1, 1), (2, 2), (4, 1)] := by kernel_rfl
theorem ztM : zO Tryz.prog 141 = true := by kernel_rfl
theorem ztN : zau Tryz.prog 178 = some [(0, 1), (1, 1), (2, 1)] := by kernel_rfl
theorem ztO : zO Tryz.prog 178 = true := by kernel_rfl
theorem ztP : zau Tryz.prog 184 = some [(0, 1), (1, 1), (2, 1)] := by kernel_rfl
theorem ztQ : zO Tryz.prog 184 = true := by kernel_rfl
theorem ztR : zau Tryz.prog 191 = some [(0, 2), (2, 1), (3, 1), (4, 1), (5, 1), (6, 1)] := by kernel_rfl
theorem ztS : zO Tryz.prog 191 = true := by kernel_rfl
theorem ztT : zau Tryz.prog 216 = some [(0, 1), (1, 1), (2, 1)] := by kernel_rfl
theorem ztU : zO Tryz.prog 216 = true := by kernel_rfl
theorem ztV : zdh Tryz.prog 179 5 178 = true := by kernel_rfl
theorem ztW : zdh Tryz.prog 194 3 60 = true := by kernel_rfl
theorem zn5 : zdh Tryz.prog 209 4 3 = true := by kernel_rfl
theorem ztX : zdh Tryz.prog 242 3 4 = true := by kernel_rfl
theorem ztY : zdh Tryz.prog 243 5 242 = true := by kernel_rfl
theorem eqo3 : (eqOk Tryz.prog 5 3 && decide (5 <= 10000)) = true := by kernel_rfl
theorem fl3 : flat Tryz.prog 5 3 = [1] := by kernel_rfl
theorem zue : (eqOk Tryz.prog 5 23 && decide (5 <= 10000)) = true := by kernel_rfl
theorem fl23 : flat Tryz.prog 5 23 = [1, 1, 1, 1] := by kernel_rfl
theorem ztZ : (eqOk Tryz.prog 5 60 && decide (5 <= 10000)) = true := by kernel_rfl
theorem fl60 : flat Tryz.prog 5 60 = [1, 1] := by kernel_rfl
theorem eq60 : (eqOk Tryz.prog 5 60 && decide (5 <= 10000)) = true := ztZ
theorem eg60 : Tryz.prog.eqGuardType Tryz.prog.depth 60 = false := by kernel_rfl
theorem mo : Tryz.prog.follows .mixedOrders = true := by kernel_rfl
end Go.Rse
