/-
  zcB facts on the types, fields and functions of the translation: printed by program (genty.py).
-/
import Derived.Test.YtfiiobachmglpaaGreatDoorProg
import Derived.Test.YtfiiobachmglpaaGreatDoorFLogA
import Derived.KernelRfl
namespace Go.Rse
open Go Go.Proofs
theorem ty3 : tyOk Tryz.prog 3 false 1 = true := by kernel_rfl
theorem ty4 : tyOk Tryz.prog 4 false 1 = true := by kernel_rfl
theorem ty23 : tyOk Tryz.prog 23 true 4 = true := by kernel_rfl
theorem ty24 : tyOk Tryz.prog 24 false 1 = true := by kernel_rfl
theorem ty27 : tyOk Tryz.prog 27 false 1 = true := by kernel_rfl
theorem ty28 : tyOk Tryz.prog 28 false 1 = true := by kernel_rfl
theorem ty37 : tyOk Tryz.prog 37 false 1 = true := by kernel_rfl
theorem ty39 : tyOk Tryz.prog 39 false 1 = true := by kernel_rfl
theorem ty41 : tyOk Tryz.prog 41 true 4 = true := by kernel_rfl
theorem ty55 : tyOk Tryz.prog 55 false 1 = true := by kernel_rfl
theorem ty60 : tyOk Tryz.prog 60 true 2 = true := by kernel_rfl
theorem ty62 : tyOk Tryz.prog 62 true 12 = true := by kernel_rfl
theorem ty67 : tyOk Tryz.prog 67 true 17 = true := by kernel_rfl
theorem ty74 : tyOk Tryz.prog 74 false 1 = true := by kernel_rfl
theorem ty96 : tyOk Tryz.prog 96 false 1 = true := by kernel_rfl
theorem zn1 : tyOk Tryz.prog 104 true 7 = true := by kernel_rfl
theorem zsU : tyOk Tryz.prog 113 true 1 = true := by kernel_rfl
theorem zsV : tyOk Tryz.prog 132 true 1 = true := by kernel_rfl
theorem zsW : tyOk Tryz.prog 135 false 1 = true := by kernel_rfl
theorem zsX : tyOk Tryz.prog 139 false 1 = true := by kernel_rfl
theorem zsY : tyOk Tryz.prog 176 false 1 = true := by kernel_rfl
theorem zsZ : tyOk Tryz.prog 178 true 3 = true := by kernel_rfl
theorem zp6 : tyOk Tryz.prog 179 true 15 = true := by kernel_rfl
theorem zs0 : tyOk Tryz.prog 184 true 3 = true := by kernel_rfl
theorem zs1 : tyOk Tryz.prog 192 false 1 = true := by kernel_rfl
theorem zp7 : tyOk Tryz.prog 209 true 4 = true := by kernel_rfl
theorem zs2 : tyOk Tryz.prog 216 true 3 = true := by kernel_rfl
theorem zs3 : tyOk Tryz.prog 242 true 3 = true := by kernel_rfl
theorem zs4 : tyOk Tryz.prog 243 true 15 = true := by kernel_rfl
theorem ze3 : (Tryz.prog.info? 3).bind (·.zero) = some (.int .i64 0) := by kernel_rfl
theorem zc3 : zx Tryz.prog 3 [.int .i64 0] := ⟨_, ze3, rfl⟩
theorem ze4 : (Tryz.prog.info? 4).bind (·.zero) = some (.bool false) := by kernel_rfl
theorem zc4 : zx Tryz.prog 4 [.bool false] := ⟨_, ze4, rfl⟩
theorem ze23 : (Tryz.prog.info? 23).bind (·.zero) = some (.agg #[.int .i64 0, .int .i64 0, .int .i64 0, .int .i64 0]) := by kernel_rfl
theorem zc23 : zx Tryz.prog 23 [.int .i64 0, .int .i64 0, .int .i64 0, .int .i64 0] := ⟨_, ze23, rfl⟩
theorem ze24 : (Tryz.prog.info? 24).bind (·.zero) = some (.slice none 0 0) := by kernel_rfl
theorem zc24 : zx Tryz.prog 24 [.nils] := ⟨_, ze24, rfl⟩
theorem ze27 : (Tryz.prog.info? 27).bind (·.zero) = some (.slice none 0 0) := by kernel_rfl
theorem zc27 : zx Tryz.prog 27 [.nils] := ⟨_, ze27, rfl⟩
theorem ze28 : (Tryz.prog.info? 28).bind (·.zero) = some (.int .i64 0) := by kernel_rfl
theorem zc28 : zx Tryz.prog 28 [.int .i64 0] := ⟨_, ze28, rfl⟩
theorem ze41 : (Tryz.prog.info? 41).bind (·.zero) = some (.agg #[.slice none 0 0, .slice none 0 0, .slice none 0 0, .slice none 0 0]) := by kernel_rfl
theorem zc41 : zx Tryz.prog 41 [.nils, .nils, .nils, .nils] := ⟨_, ze41, rfl⟩
theorem ze55 : (Tryz.prog.info? 55).bind (·.zero) = some (.slice none 0 0) := by kernel_rfl
theorem zc55 : zx Tryz.prog 55 [.nils] := ⟨_, ze55, rfl⟩
theorem ze60 : (Tryz.prog.info? 60).bind (·.zero) = some (.agg #[.int .i64 0, .int .i64 0]) := by kernel_rfl
theorem zc60 : zx Tryz.prog 60 [.int .i64 0, .int .i64 0] := ⟨_, ze60, rfl⟩
theorem ze62 : (Tryz.prog.info? 62).bind (·.zero) = some (.agg #[.int .i64 0, .int .i64 0, .bool false, .bool false, .bool false, .int .i64 0, .int .i64 0, .int .i64 0, .int .i64 0, .int .i64 0, .int .i64 0, .int .i64 0]) := by kernel_rfl
theorem zc62 : zx Tryz.prog 62 [.int .i64 0, .int .i64 0, .bool false, .bool false, .bool false, .int .i64 0, .int .i64 0, .int .i64 0, .int .i64 0, .int .i64 0, .int .i64 0, .int .i64 0] := ⟨_, ze62, rfl⟩
theorem ze67 : (Tryz.prog.info? 67).bind (·.zero) = some (.agg #[.int .i64 0, .int .i64 0, .int .i64 0, .int .i64 0, .bool false, .int .i64 0, .bool false, .bool false, .int .i64 0, .int .i64 0, .int .i64 0, .int .i64 0, .bool false, .int .i64 0, .int .i64 0, .int .i64 0, .int .i64 0]) := by kernel_rfl
theorem zc67 : zx Tryz.prog 67 [.int .i64 0, .int .i64 0, .int .i64 0, .int .i64 0, .bool false, .int .i64 0, .bool false, .bool false, .int .i64 0, .int .i64 0, .int .i64 0, .int .i64 0, .bool false, .int .i64 0, .int .i64 0, .int .i64 0, .int .i64 0] := ⟨_, ze67, rfl⟩
theorem ze74 : (Tryz.prog.info? 74).bind (·.zero) = some (.slice none 0 0) := by kernel_rfl
theorem zc74 : zx Tryz.prog 74 [.nils] := ⟨_, ze74, rfl⟩
theorem ze96 : (Tryz.prog.info? 96).bind (·.zero) = some (.nilFunc) := by kernel_rfl
theorem zc96 : zx Tryz.prog 96 [.nilf] := ⟨_, ze96, rfl⟩
theorem zl1 : (Tryz.prog.info? 104).bind (·.zero) = some (.agg #[.int .i64 0, .int .i64 0, .int .i64 0, .int .i64 0, .bool false, .int .i64 0, .int .i64 0]) := by kernel_rfl
theorem zn2 : zx Tryz.prog 104 [.int .i64 0, .int .i64 0, .int .i64 0, .int .i64 0, .bool false, .int .i64 0, .int .i64 0] := ⟨_, zl1, rfl⟩
theorem zs5 : (Tryz.prog.info? 113).bind (·.zero) = some (.agg #[.int .i64 0]) := by kernel_rfl
theorem zs6 : zx Tryz.prog 113 [.int .i64 0] := ⟨_, zs5, rfl⟩
theorem zs7 : (Tryz.prog.info? 117).bind (·.zero) = some (.agg #[.int .i64 0, .int .i64 0, .int .i64 0, .int .i64 0, .slice none 0 0, .slice none 0 0, .slice none 0 0]) := by kernel_rfl
theorem zs8 : zx Tryz.prog 117 [.int .i64 0, .int .i64 0, .int .i64 0, .int .i64 0, .nils, .nils, .nils] := ⟨_, zs7, rfl⟩
theorem zs9 : (Tryz.prog.info? 132).bind (·.zero) = some (.agg #[.slice none 0 0]) := by kernel_rfl
theorem zta : zx Tryz.prog 132 [.nils] := ⟨_, zs9, rfl⟩
theorem ztb : (Tryz.prog.info? 141).bind (·.zero) = some (.agg #[.slice none 0 0, .int .i64 0, .int .i64 0, .int .i64 0, .map none]) := by kernel_rfl
theorem ztc : (Tryz.prog.info? 178).bind (·.zero) = some (.agg #[.nilFunc, .int .i64 0, .int .i64 0]) := by kernel_rfl
theorem ztd : (Tryz.prog.info? 179).bind (·.zero) = some (.agg #[.nilFunc, .int .i64 0, .int .i64 0, .nilFunc, .int .i64 0, .int .i64 0, .nilFunc, .int .i64 0, .int .i64 0, .nilFunc, .int .i64 0, .int .i64 0, .nilFunc, .int .i64 0, .int .i64 0]) := by kernel_rfl
theorem zte : zx Tryz.prog 179 [.nilf, .int .i64 0, .int .i64 0, .nilf, .int .i64 0, .int .i64 0, .nilf, .int .i64 0, .int .i64 0, .nilf, .int .i64 0, .int .i64 0, .nilf, .int .i64 0, .int .i64 0] := ⟨_, ztd, rfl⟩
theorem zp8 : (Tryz.prog.info? 184).bind (·.zero) = some (.agg #[.int .i64 0, .int .i64 0, .int .i64 0]) := by kernel_rfl
theorem ztf : zx Tryz.prog 184 [.int .i64 0, .int .i64 0, .int .i64 0] := ⟨_, zp8, rfl⟩
theorem ztg : (Tryz.prog.info? 191).bind (·.zero) = some (.agg #[.int .i64 0, .int .i64 0, .int .i64 0, .slice none 0 0, .slice none 0 0, .slice none 0 0, .slice none 0 0]) := by kernel_rfl
theorem zth : zx Tryz.prog 191 [.int .i64 0, .int .i64 0, .int .i64 0, .nils, .nils, .nils, .nils] := ⟨_, ztg, rfl⟩
theorem zti : (Tryz.prog.info? 194).bind (·.zero) = some (.agg #[.int .i64 0, .int .i64 0, .int .i64 0, .int .i64 0, .int .i64 0, .int .i64 0]) := by kernel_rfl
theorem ztj : zx Tryz.prog 194 [.int .i64 0, .int .i64 0, .int .i64 0, .int .i64 0, .int .i64 0, .int .i64 0] := ⟨_, zti, rfl⟩
theorem ztk : (Tryz.prog.info? 209).bind (·.zero) = some (.agg #[.int .i64 0, .int .i64 0, .int .i64 0, .int .i64 0]) := by kernel_rfl
theorem ztl : zx Tryz.prog 209 [.int .i64 0, .int .i64 0, .int .i64 0, .int .i64 0] := ⟨_, ztk, rfl⟩
theorem ztm : (Tryz.prog.info? 216).bind (·.zero) = some (.agg #[.int .i64 0, .int .i64 0, .bool false]) := by kernel_rfl
theorem ztn : zx Tryz.prog 216 [.int .i64 0, .int .i64 0, .bool false] := ⟨_, ztm, rfl⟩
theorem zto : (Tryz.prog.info? 242).bind (·.zero) = some (.agg #[.bool false, .bool false, .bool false]) := by kernel_rfl
theorem ztp : zx Tryz.prog 242 [.bool false, .bool false, .bool false] := ⟨_, zto, rfl⟩
theorem ztq : (Tryz.prog.info? 243).bind (·.zero) = some (.agg #[.bool false, .bool false, .bool false, .bool false, .bool false, .bool false, .bool false, .bool false, .bool false, .bool false, .bool false, .bool false, .bool false, .bool false, .bool false]) := by kernel_rfl
theorem zp9 : zx Tryz.prog 243 [.bool false, .bool false, .bool false, .bool false, .bool false, .bool false, .bool false, .bool false, .bool false, .bool false, .bool false, .bool false, .bool false, .bool false, .bool false] := ⟨_, ztq, rfl⟩
theorem ti3 : zaS Tryz.prog 3 (.int .i64 0) 1 8 := za3 (by kernel_rfl) rfl
theorem ti4 : zaS Tryz.prog 4 (.bool false) 1 1 := za3 (by kernel_rfl) rfl
theorem ti27 : zaS Tryz.prog 27 (.slice none 0 0) 1 24 := za3 (by kernel_rfl) rfl
theorem ti60 : zaS Tryz.prog 60 (.agg #[.int .i64 0, .int .i64 0]) 2 16 := za3 (by kernel_rfl) rfl
theorem ti62 : zaS Tryz.prog 62 (.agg #[.int .i64 0, .int .i64 0, .bool false, .bool false, .bool false, .int .i64 0, .int .i64 0, .int .i64 0, .int .i64 0, .int .i64 0, .int .i64 0, .int .i64 0]) 12 80 := za3 (by kernel_rfl) rfl
theorem ti67 : zaS Tryz.prog 67 (.agg #[.int .i64 0, .int .i64 0, .int .i64 0, .int .i64 0, .bool false, .int .i64 0, .bool false, .bool false, .int .i64 0, .int .i64 0, .int .i64 0, .int .i64 0, .bool false, .int .i64 0, .int .i64 0, .int .i64 0, .int .i64 0]) 17 128 := za3 (by kernel_rfl) rfl
theorem ztr : zaS Tryz.prog 104 (.agg #[.int .i64 0, .int .i64 0, .int .i64 0, .int .i64 0, .bool false, .int .i64 0, .int .i64 0]) 7 56 := za3 (by kernel_rfl) rfl
theorem zts : zaS Tryz.prog 184 (.agg #[.int .i64 0, .int .i64 0, .int .i64 0]) 3 24 := za3 (by kernel_rfl) rfl
theorem sl24 : slOk Tryz.prog 24 62 = true := by kernel_rfl
theorem sl27 : slOk Tryz.prog 27 3 = true := by kernel_rfl
theorem sl37 : slOk Tryz.prog 37 67 = true := by kernel_rfl
theorem sl39 : slOk Tryz.prog 39 60 = true := by kernel_rfl
theorem sl55 : slOk Tryz.prog 55 104 = true := by kernel_rfl
theorem sl74 : slOk Tryz.prog 74 4 = true := by kernel_rfl
theorem ztt : slOk Tryz.prog 181 184 = true := by kernel_rfl
theorem zqa : slOk Tryz.prog 199 27 = true := by kernel_rfl
theorem zrt : zb Tryz.prog 23 0 0 = true := by kernel_rfl
theorem zru : zb Tryz.prog 23 1 1 = true := by kernel_rfl
theorem zrv : zb Tryz.prog 23 2 2 = true := by kernel_rfl
theorem zrw : zb Tryz.prog 23 3 3 = true := by kernel_rfl
theorem zrx : zb Tryz.prog 41 0 0 = true := by kernel_rfl
theorem zry : zb Tryz.prog 41 1 1 = true := by kernel_rfl
theorem zrz : zb Tryz.prog 41 2 2 = true := by kernel_rfl
theorem zrA : zb Tryz.prog 41 3 3 = true := by kernel_rfl
theorem zrB : zb Tryz.prog 60 0 0 = true := by kernel_rfl
theorem zrC : zb Tryz.prog 60 1 1 = true := by kernel_rfl
theorem zrD : zb Tryz.prog 62 1 1 = true := by kernel_rfl
theorem zrE : zb Tryz.prog 62 2 2 = true := by kernel_rfl
theorem zrF : zb Tryz.prog 62 3 3 = true := by kernel_rfl
theorem zrG : zb Tryz.prog 62 4 4 = true := by kernel_rfl
theorem zrH : zb Tryz.prog 62 5 5 = true := by kernel_rfl
theorem zrI : zb Tryz.prog 62 6 6 = true := by kernel_rfl
theorem zrJ : zb Tryz.prog 62 7 8 = true := by kernel_rfl
theorem zrK : zb Tryz.prog 62 8 10 = true := by kernel_rfl
theorem zrL : zb Tryz.prog 67 0 0 = true := by kernel_rfl
theorem zrM : zb Tryz.prog 67 1 1 = true := by kernel_rfl
theorem zrN : zb Tryz.prog 67 4 4 = true := by kernel_rfl
theorem zo0 : zb Tryz.prog 104 0 0 = true := by kernel_rfl
theorem zo1 : zb Tryz.prog 104 1 1 = true := by kernel_rfl
theorem zo2 : zb Tryz.prog 104 2 2 = true := by kernel_rfl
theorem zo3 : zb Tryz.prog 104 3 3 = true := by kernel_rfl
theorem zo4 : zb Tryz.prog 104 4 4 = true := by kernel_rfl
theorem zo5 : zb Tryz.prog 104 5 5 = true := by kernel_rfl
theorem zo6 : zb Tryz.prog 113 0 0 = true := by kernel_rfl
theorem zo7 : zb Tryz.prog 117 0 0 = true := by kernel_rfl
theorem zo8 : zb Tryz.prog 117 1 4 = true := by kernel_rfl
theorem zo9 : zb Tryz.prog 117 2 5 = true := by kernel_rfl
theorem zpa : zb Tryz.prog 117 3 6 = true := by kernel_rfl
theorem zpb : zb Tryz.prog 132 0 0 = true := by kernel_rfl
theorem zpc : zb Tryz.prog 141 0 0 = true := by kernel_rfl
theorem zpd : zb Tryz.prog 141 1 1 = true := by kernel_rfl
theorem zpe : zb Tryz.prog 141 2 2 = true := by kernel_rfl
theorem zpf : zb Tryz.prog 141 3 4 = true := by kernel_rfl
theorem zpg : zb Tryz.prog 178 0 0 = true := by kernel_rfl
theorem zph : zb Tryz.prog 178 1 1 = true := by kernel_rfl
theorem zpi : zb Tryz.prog 178 2 2 = true := by kernel_rfl
theorem zpj : zb Tryz.prog 184 0 0 = true := by kernel_rfl
theorem zpk : zb Tryz.prog 184 1 1 = true := by kernel_rfl
theorem zpl : zb Tryz.prog 184 2 2 = true := by kernel_rfl
theorem zpm : zb Tryz.prog 191 0 0 = true := by kernel_rfl
theorem zpn : zb Tryz.prog 191 1 2 = true := by kernel_rfl
theorem zpo : zb Tryz.prog 191 2 3 = true := by kernel_rfl
theorem zpp : zb Tryz.prog 191 3 4 = true := by kernel_rfl
theorem zpq : zb Tryz.prog 191 4 5 = true := by kernel_rfl
theorem zpr : zb Tryz.prog 191 5 6 = true := by kernel_rfl
theorem zps : zb Tryz.prog 216 0 0 = true := by kernel_rfl
theorem zpt : zb Tryz.prog 216 1 1 = true := by kernel_rfl
theorem zpu : zb Tryz.prog 216 2 2 = true := by kernel_rfl
theorem pl23 : zav Tryz.prog 23 = some [(0, 1), (1, 1), (2, 1), (3, 1)] := by kernel_rfl
theorem ia23 : zP Tryz.prog 23 = true := by kernel_rfl
theorem pl41 : zav Tryz.prog 41 = some [(0, 1), (1, 1), (2, 1), (3, 1)] := by kernel_rfl
theorem ia41 : zP Tryz.prog 41 = true := by kernel_rfl
theorem pl60 : zav Tryz.prog 60 = some [(0, 1), (1, 1)] := by kernel_rfl
theorem ia60 : zP Tryz.prog 60 = true := by kernel_rfl
theorem pl62 : zav Tryz.prog 62 = some [(0, 1), (1, 1), (2, 1), (3, 1), (4, 1), (5, 1), (6, 2), (8, 2), (10, 2)] := by kernel_rfl
theorem ia62 : zP Tryz.prog 62 = true := by kernel_rfl
theorem pl67 : zav Tryz.prog 67 = some [(0, 1), (1, 1), (2, 1), (3, 1), (4, 1), (5, 1), (6, 1), (7, 1), (8, 4), (12, 1), (13, 1), (14, 1), (15, 2)] := by kernel_rfl
theorem ia67 : zP Tryz.prog 67 = true := by kernel_rfl
theorem ztu : zav Tryz.prog 104 = some [(0, 1), (1, 1), (2, 1), (3, 1), (4, 1), (5, 2)] := by kernel_rfl
theorem ztv : zP Tryz.prog 104 = true := by kernel_rfl
theorem ztw : zav Tryz.prog 113 = some [(0, 1)] := by kernel_rfl
theorem ztx : zP Tryz.prog 113 = true := by kernel_rfl
theorem zty : zav Tryz.prog 117 = some [(0, 4), (4, 1), (5, 1), (6, 1)] := by kernel_rfl
theorem ztz : zP Tryz.prog 117 = true := by kernel_rfl
theorem ztA : zav Tryz.prog 132 = some [(0, 1)] := by kernel_rfl
theorem ztB : zP Tryz.prog 132 = true := by kernel_rfl
theorem ztC : zav Tryz.prog 141 = some [(0, 1), (1, 1), (2, 2), (4, 1)] := by kernel_rfl
theorem ztD : zP Tryz.prog 141 = true := by kernel_rfl
theorem ztE : zav Tryz.prog 178 = some [(0, 1), (1, 1), (2, 1)] := by kernel_rfl
theorem ztF : zP Tryz.prog 178 = true := by kernel_rfl
theorem ztG : zav Tryz.prog 184 = some [(0, 1), (1, 1), (2, 1)] := by kernel_rfl
theorem ztH : zP Tryz.prog 184 = true := by kernel_rfl
theorem ztI : zav Tryz.prog 191 = some [(0, 2), (2, 1), (3, 1), (4, 1), (5, 1), (6, 1)] := by kernel_rfl
theorem ztJ : zP Tryz.prog 191 = true := by kernel_rfl
theorem ztK : zav Tryz.prog 216 = some [(0, 1), (1, 1), (2, 1)] := by kernel_rfl
theorem ztL : zP Tryz.prog 216 = true := by kernel_rfl
theorem ztM : zdk Tryz.prog 179 5 178 = true := by kernel_rfl
theorem ztN : zdk Tryz.prog 194 3 60 = true := by kernel_rfl
theorem zn3 : zdk Tryz.prog 209 4 3 = true := by kernel_rfl
theorem ztO : zdk Tryz.prog 242 3 4 = true := by kernel_rfl
theorem ztP : zdk Tryz.prog 243 5 242 = true := by kernel_rfl
theorem eqo3 : (eqOk Tryz.prog 5 3 && decide (5 <= 10000)) = true := by kernel_rfl
theorem fl3 : flat Tryz.prog 5 3 = [1] := by kernel_rfl
theorem eqo23 : (eqOk Tryz.prog 5 23 && decide (5 <= 10000)) = true := by kernel_rfl
theorem fl23 : flat Tryz.prog 5 23 = [1, 1, 1, 1] := by kernel_rfl
theorem eqo60 : (eqOk Tryz.prog 5 60 && decide (5 <= 10000)) = true := by kernel_rfl
theorem fl60 : flat Tryz.prog 5 60 = [1, 1] := by kernel_rfl
theorem eqo67 : (eqOk Tryz.prog 5 67 && decide (5 <= 10000)) = true := by kernel_rfl
theorem fl67 : flat Tryz.prog 5 67 = [1, 1, 1, 1, 2, 1, 2, 2, 1, 1, 1, 1, 2, 1, 1, 1, 1] := by kernel_rfl
theorem eq60 : (eqOk Tryz.prog 5 60 && decide (5 <= 10000)) = true := eqo60
theorem eg60 : Tryz.prog.eqGuardType Tryz.prog.depth 60 = false := by kernel_rfl
theorem eq67 : (eqOk Tryz.prog 5 67 && decide (5 <= 10000)) = true := eqo67
theorem eg67 : Tryz.prog.eqGuardType Tryz.prog.depth 67 = false := by kernel_rfl
theorem mo : Tryz.prog.follows .mixedOrders = true := by kernel_rfl
end Go.Rse
