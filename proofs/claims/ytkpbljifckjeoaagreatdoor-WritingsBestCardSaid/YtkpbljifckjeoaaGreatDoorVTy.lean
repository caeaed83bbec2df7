/-
  zct facts on the types, fields and functions of the translation: printed by program (genty.py).
-/
import Derived.Test.YtkpbljifckjeoaaGreatDoorProg
import Derived.Test.YtkpbljifckjeoaaGreatDoorVLogA
import Derived.KernelRfl
namespace Go.Rse
open Go Go.Proofs
theorem ty3 : tyOk Tryz.prog 3 false 1 = true := by kernel_rfl
theorem ty4 : tyOk Tryz.prog 4 false 1 = true := by kernel_rfl
theorem ty22 : tyOk Tryz.prog 22 false 1 = true := by kernel_rfl
theorem ty25 : tyOk Tryz.prog 25 true 2 = true := by kernel_rfl
theorem ty27 : tyOk Tryz.prog 27 false 1 = true := by kernel_rfl
theorem ty28 : tyOk Tryz.prog 28 false 1 = true := by kernel_rfl
theorem ty32 : tyOk Tryz.prog 32 true 4 = true := by kernel_rfl
theorem ty35 : tyOk Tryz.prog 35 true 3 = true := by kernel_rfl
theorem ty41 : tyOk Tryz.prog 41 true 17 = true := by kernel_rfl
theorem ty54 : tyOk Tryz.prog 54 false 1 = true := by kernel_rfl
theorem ty55 : tyOk Tryz.prog 55 false 1 = true := by kernel_rfl
theorem ty59 : tyOk Tryz.prog 59 false 1 = true := by kernel_rfl
theorem ty76 : tyOk Tryz.prog 76 true 3 = true := by kernel_rfl
theorem ty80 : tyOk Tryz.prog 80 true 3 = true := by kernel_rfl
theorem ty91 : tyOk Tryz.prog 91 false 1 = true := by kernel_rfl
theorem ty97 : tyOk Tryz.prog 97 true 4 = true := by kernel_rfl
theorem zvf : tyOk Tryz.prog 101 false 1 = true := by kernel_rfl
theorem zvg : tyOk Tryz.prog 103 false 1 = true := by kernel_rfl
theorem zvh : tyOk Tryz.prog 107 false 1 = true := by kernel_rfl
theorem zvi : tyOk Tryz.prog 114 false 1 = true := by kernel_rfl
theorem zkj : tyOk Tryz.prog 120 true 12 = true := by kernel_rfl
theorem zrt : tyOk Tryz.prog 121 true 4 = true := by kernel_rfl
theorem zru : tyOk Tryz.prog 130 true 5 = true := by kernel_rfl
theorem zrv : tyOk Tryz.prog 133 true 3 = true := by kernel_rfl
theorem zvj : tyOk Tryz.prog 153 true 1 = true := by kernel_rfl
theorem zvk : tyOk Tryz.prog 168 false 1 = true := by kernel_rfl
theorem zvl : tyOk Tryz.prog 170 true 4 = true := by kernel_rfl
theorem zrw : tyOk Tryz.prog 171 true 36 = true := by kernel_rfl
theorem zvm : tyOk Tryz.prog 224 false 1 = true := by kernel_rfl
theorem zvn : tyOk Tryz.prog 228 false 1 = true := by kernel_rfl
theorem zoE : tyOk Tryz.prog 232 true 7 = true := by kernel_rfl
theorem zvo : tyOk Tryz.prog 235 false 1 = true := by kernel_rfl
theorem zvp : tyOk Tryz.prog 240 true 1 = true := by kernel_rfl
theorem zvq : tyOk Tryz.prog 241 false 1 = true := by kernel_rfl
theorem zvr : tyOk Tryz.prog 249 false 1 = true := by kernel_rfl
theorem zvs : tyOk Tryz.prog 262 false 1 = true := by kernel_rfl
theorem zvt : tyOk Tryz.prog 264 true 3 = true := by kernel_rfl
theorem zrx : tyOk Tryz.prog 265 true 15 = true := by kernel_rfl
theorem zvu : tyOk Tryz.prog 277 true 3 = true := by kernel_rfl
theorem zvv : tyOk Tryz.prog 284 true 3 = true := by kernel_rfl
theorem zvw : tyOk Tryz.prog 285 true 15 = true := by kernel_rfl
theorem ze3 : (Tryz.prog.info? 3).bind (·.zero) = some (.int .i64 0) := by kernel_rfl
theorem zc3 : ze Tryz.prog 3 [.int .i64 0] := ⟨_, ze3, rfl⟩
theorem ze4 : (Tryz.prog.info? 4).bind (·.zero) = some (.bool false) := by kernel_rfl
theorem zc4 : ze Tryz.prog 4 [.bool false] := ⟨_, ze4, rfl⟩
theorem ze25 : (Tryz.prog.info? 25).bind (·.zero) = some (.agg #[.int .i64 0, .int .i64 0]) := by kernel_rfl
theorem zc25 : ze Tryz.prog 25 [.int .i64 0, .int .i64 0] := ⟨_, ze25, rfl⟩
theorem ze27 : (Tryz.prog.info? 27).bind (·.zero) = some (.slice none 0 0) := by kernel_rfl
theorem ze28 : (Tryz.prog.info? 28).bind (·.zero) = some (.int .i64 0) := by kernel_rfl
theorem zc28 : ze Tryz.prog 28 [.int .i64 0] := ⟨_, ze28, rfl⟩
theorem ze32 : (Tryz.prog.info? 32).bind (·.zero) = some (.agg #[.int .i64 0, .int .i64 0, .int .i64 0, .int .i64 0]) := by kernel_rfl
theorem zc32 : ze Tryz.prog 32 [.int .i64 0, .int .i64 0, .int .i64 0, .int .i64 0] := ⟨_, ze32, rfl⟩
theorem ze35 : (Tryz.prog.info? 35).bind (·.zero) = some (.agg #[.bool false, .bool false, .bool false]) := by kernel_rfl
theorem zc35 : ze Tryz.prog 35 [.bool false, .bool false, .bool false] := ⟨_, ze35, rfl⟩
theorem ze41 : (Tryz.prog.info? 41).bind (·.zero) = some (.agg #[.int .i64 0, .int .i64 0, .int .i64 0, .int .i64 0, .bool false, .int .i64 0, .bool false, .bool false, .int .i64 0, .int .i64 0, .int .i64 0, .int .i64 0, .bool false, .int .i64 0, .int .i64 0, .int .i64 0, .int .i64 0]) := by kernel_rfl
theorem zc41 : ze Tryz.prog 41 [.int .i64 0, .int .i64 0, .int .i64 0, .int .i64 0, .bool false, .int .i64 0, .bool false, .bool false, .int .i64 0, .int .i64 0, .int .i64 0, .int .i64 0, .bool false, .int .i64 0, .int .i64 0, .int .i64 0, .int .i64 0] := ⟨_, ze41, rfl⟩
theorem ze54 : (Tryz.prog.info? 54).bind (·.zero) = some (.slice none 0 0) := by kernel_rfl
theorem zc54 : ze Tryz.prog 54 [.nils] := ⟨_, ze54, rfl⟩
theorem ze55 : (Tryz.prog.info? 55).bind (·.zero) = some (.slice none 0 0) := by kernel_rfl
theorem zc55 : ze Tryz.prog 55 [.nils] := ⟨_, ze55, rfl⟩
theorem ze59 : (Tryz.prog.info? 59).bind (·.zero) = some (.slice none 0 0) := by kernel_rfl
theorem zc59 : ze Tryz.prog 59 [.nils] := ⟨_, ze59, rfl⟩
theorem ze76 : (Tryz.prog.info? 76).bind (·.zero) = some (.agg #[.int .i64 0, .int .i64 0, .bool false]) := by kernel_rfl
theorem zc76 : ze Tryz.prog 76 [.int .i64 0, .int .i64 0, .bool false] := ⟨_, ze76, rfl⟩
theorem ze80 : (Tryz.prog.info? 80).bind (·.zero) = some (.agg #[.int .i64 0, .int .i64 0, .slice none 0 0]) := by kernel_rfl
theorem zc80 : ze Tryz.prog 80 [.int .i64 0, .int .i64 0, .nils] := ⟨_, ze80, rfl⟩
theorem ze89 : (Tryz.prog.info? 89).bind (·.zero) = some (.agg #[.bool false, .bool false, .bool false, .bool false, .bool false, .bool false, .bool false, .bool false]) := by kernel_rfl
theorem zc89 : ze Tryz.prog 89 [.bool false, .bool false, .bool false, .bool false, .bool false, .bool false, .bool false, .bool false] := ⟨_, ze89, rfl⟩
theorem ze91 : (Tryz.prog.info? 91).bind (·.zero) = some (.slice none 0 0) := by kernel_rfl
theorem zc91 : ze Tryz.prog 91 [.nils] := ⟨_, ze91, rfl⟩
theorem ze97 : (Tryz.prog.info? 97).bind (·.zero) = some (.agg #[.slice none 0 0, .slice none 0 0, .slice none 0 0, .slice none 0 0]) := by kernel_rfl
theorem zc97 : ze Tryz.prog 97 [.nils, .nils, .nils, .nils] := ⟨_, ze97, rfl⟩
theorem zvx : (Tryz.prog.info? 114).bind (·.zero) = some (.slice none 0 0) := by kernel_rfl
theorem zvy : ze Tryz.prog 114 [.nils] := ⟨_, zvx, rfl⟩
theorem zry : (Tryz.prog.info? 120).bind (·.zero) = some (.agg #[.int .i64 0, .int .i64 0, .bool false, .bool false, .bool false, .int .i64 0, .int .i64 0, .int .i64 0, .int .i64 0, .int .i64 0, .int .i64 0, .int .i64 0]) := by kernel_rfl
theorem ziv : ze Tryz.prog 120 [.int .i64 0, .int .i64 0, .bool false, .bool false, .bool false, .int .i64 0, .int .i64 0, .int .i64 0, .int .i64 0, .int .i64 0, .int .i64 0, .int .i64 0] := ⟨_, zry, rfl⟩
theorem zvz : (Tryz.prog.info? 121).bind (·.zero) = some (.agg #[.int .i64 0, .int .i64 0, .int .i64 0, .int .i64 0]) := by kernel_rfl
theorem zvA : ze Tryz.prog 121 [.int .i64 0, .int .i64 0, .int .i64 0, .int .i64 0] := ⟨_, zvz, rfl⟩
theorem zrz : (Tryz.prog.info? 130).bind (·.zero) = some (.agg #[.int .i64 0, .bool false, .bool false, .bool false, .int .i64 0]) := by kernel_rfl
theorem zvB : ze Tryz.prog 130 [.int .i64 0, .bool false, .bool false, .bool false, .int .i64 0] := ⟨_, zrz, rfl⟩
theorem zrA : (Tryz.prog.info? 133).bind (·.zero) = some (.agg #[.int .i64 0, .bool false, .bool false]) := by kernel_rfl
theorem zvC : ze Tryz.prog 133 [.int .i64 0, .bool false, .bool false] := ⟨_, zrA, rfl⟩
theorem zvD : (Tryz.prog.info? 153).bind (·.zero) = some (.agg #[.int .i64 0]) := by kernel_rfl
theorem zvE : ze Tryz.prog 153 [.int .i64 0] := ⟨_, zvD, rfl⟩
theorem zvF : (Tryz.prog.info? 158).bind (·.zero) = some (.agg #[.int .i64 0, .int .i64 0, .int .i64 0, .int .i64 0, .slice none 0 0, .slice none 0 0, .slice none 0 0]) := by kernel_rfl
theorem zvG : ze Tryz.prog 158 [.int .i64 0, .int .i64 0, .int .i64 0, .int .i64 0, .nils, .nils, .nils] := ⟨_, zvF, rfl⟩
theorem zvH : (Tryz.prog.info? 170).bind (·.zero) = some (.agg #[.bool false, .bool false, .bool false, .nilFunc]) := by kernel_rfl
theorem zvI : ze Tryz.prog 170 [.bool false, .bool false, .bool false, .nilf] := ⟨_, zvH, rfl⟩
theorem zvJ : (Tryz.prog.info? 171).bind (·.zero) = some (.agg #[.bool false, .bool false, .bool false, .nilFunc, .bool false, .bool false, .bool false, .nilFunc, .bool false, .bool false, .bool false, .nilFunc, .bool false, .bool false, .bool false, .nilFunc, .bool false, .bool false, .bool false, .nilFunc, .bool false, .bool false, .bool false, .nilFunc, .bool false, .bool false, .bool false, .nilFunc, .bool false, .bool false, .bool false, .nilFunc, .bool false, .bool false, .bool false, .nilFunc]) := by kernel_rfl
theorem zvK : ze Tryz.prog 171 [.bool false, .bool false, .bool false, .nilf, .bool false, .bool false, .bool false, .nilf, .bool false, .bool false, .bool false, .nilf, .bool false, .bool false, .bool false, .nilf, .bool false, .bool false, .bool false, .nilf, .bool false, .bool false, .bool false, .nilf, .bool false, .bool false, .bool false, .nilf, .bool false, .bool false, .bool false, .nilf, .bool false, .bool false, .bool false, .nilf] := ⟨_, zvJ, rfl⟩
theorem zvL : (Tryz.prog.info? 197).bind (·.zero) = some (.agg #[.int .i64 0, .int .i64 0, .int .i64 0, .int .i64 0, .int .i64 0, .int .i64 0]) := by kernel_rfl
theorem zvM : ze Tryz.prog 197 [.int .i64 0, .int .i64 0, .int .i64 0, .int .i64 0, .int .i64 0, .int .i64 0] := ⟨_, zvL, rfl⟩
theorem zvN : (Tryz.prog.info? 224).bind (·.zero) = some (.nilFunc) := by kernel_rfl
theorem zvO : ze Tryz.prog 224 [.nilf] := ⟨_, zvN, rfl⟩
theorem zvP : (Tryz.prog.info? 228).bind (·.zero) = some (.slice none 0 0) := by kernel_rfl
theorem zvQ : ze Tryz.prog 228 [.nils] := ⟨_, zvP, rfl⟩
theorem zoF : (Tryz.prog.info? 232).bind (·.zero) = some (.agg #[.int .i64 0, .int .i64 0, .int .i64 0, .int .i64 0, .bool false, .int .i64 0, .int .i64 0]) := by kernel_rfl
theorem zvR : ze Tryz.prog 232 [.int .i64 0, .int .i64 0, .int .i64 0, .int .i64 0, .bool false, .int .i64 0, .int .i64 0] := ⟨_, zoF, rfl⟩
theorem zvS : (Tryz.prog.info? 240).bind (·.zero) = some (.agg #[.slice none 0 0]) := by kernel_rfl
theorem zvT : ze Tryz.prog 240 [.nils] := ⟨_, zvS, rfl⟩
theorem zvU : (Tryz.prog.info? 243).bind (·.zero) = some (.agg #[.slice none 0 0, .int .i64 0, .int .i64 0, .int .i64 0, .map none]) := by kernel_rfl
theorem zvV : (Tryz.prog.info? 249).bind (·.zero) = some (.nilFunc) := by kernel_rfl
theorem zvW : ze Tryz.prog 249 [.nilf] := ⟨_, zvV, rfl⟩
theorem zvX : (Tryz.prog.info? 264).bind (·.zero) = some (.agg #[.nilFunc, .int .i64 0, .int .i64 0]) := by kernel_rfl
theorem zvY : (Tryz.prog.info? 265).bind (·.zero) = some (.agg #[.nilFunc, .int .i64 0, .int .i64 0, .nilFunc, .int .i64 0, .int .i64 0, .nilFunc, .int .i64 0, .int .i64 0, .nilFunc, .int .i64 0, .int .i64 0, .nilFunc, .int .i64 0, .int .i64 0]) := by kernel_rfl
theorem zvZ : ze Tryz.prog 265 [.nilf, .int .i64 0, .int .i64 0, .nilf, .int .i64 0, .int .i64 0, .nilf, .int .i64 0, .int .i64 0, .nilf, .int .i64 0, .int .i64 0, .nilf, .int .i64 0, .int .i64 0] := ⟨_, zvY, rfl⟩
theorem zv0 : (Tryz.prog.info? 277).bind (·.zero) = some (.agg #[.int .i64 0, .int .i64 0, .bool false]) := by kernel_rfl
theorem zv1 : ze Tryz.prog 277 [.int .i64 0, .int .i64 0, .bool false] := ⟨_, zv0, rfl⟩
theorem zv2 : (Tryz.prog.info? 284).bind (·.zero) = some (.agg #[.bool false, .bool false, .bool false]) := by kernel_rfl
theorem zv3 : ze Tryz.prog 284 [.bool false, .bool false, .bool false] := ⟨_, zv2, rfl⟩
theorem zv4 : (Tryz.prog.info? 285).bind (·.zero) = some (.agg #[.bool false, .bool false, .bool false, .bool false, .bool false, .bool false, .bool false, .bool false, .bool false, .bool false, .bool false, .bool false, .bool false, .bool false, .bool false]) := by kernel_rfl
theorem zrB : ze Tryz.prog 285 [.bool false, .bool false, .bool false, .bool false, .bool false, .bool false, .bool false, .bool false, .bool false, .bool false, .bool false, .bool false, .bool false, .bool false, .bool false] := ⟨_, zv4, rfl⟩
theorem ti3 : zM Tryz.prog 3 (.int .i64 0) 1 8 := zz (by kernel_rfl) rfl
theorem ti4 : zM Tryz.prog 4 (.bool false) 1 1 := zz (by kernel_rfl) rfl
theorem ti25 : zM Tryz.prog 25 (.agg #[.int .i64 0, .int .i64 0]) 2 16 := zz (by kernel_rfl) rfl
theorem ti27 : zM Tryz.prog 27 (.slice none 0 0) 1 24 := zz (by kernel_rfl) rfl
theorem ti35 : zM Tryz.prog 35 (.agg #[.bool false, .bool false, .bool false]) 3 3 := zz (by kernel_rfl) rfl
theorem ti41 : zM Tryz.prog 41 (.agg #[.int .i64 0, .int .i64 0, .int .i64 0, .int .i64 0, .bool false, .int .i64 0, .bool false, .bool false, .int .i64 0, .int .i64 0, .int .i64 0, .int .i64 0, .bool false, .int .i64 0, .int .i64 0, .int .i64 0, .int .i64 0]) 17 128 := zz (by kernel_rfl) rfl
theorem ti55 : zM Tryz.prog 55 (.slice none 0 0) 1 24 := zz (by kernel_rfl) rfl
theorem ti59 : zM Tryz.prog 59 (.slice none 0 0) 1 24 := zz (by kernel_rfl) rfl
theorem ti76 : zM Tryz.prog 76 (.agg #[.int .i64 0, .int .i64 0, .bool false]) 3 24 := zz (by kernel_rfl) rfl
theorem ti80 : zM Tryz.prog 80 (.agg #[.int .i64 0, .int .i64 0, .slice none 0 0]) 3 40 := zz (by kernel_rfl) rfl
theorem zv5 : zM Tryz.prog 120 (.agg #[.int .i64 0, .int .i64 0, .bool false, .bool false, .bool false, .int .i64 0, .int .i64 0, .int .i64 0, .int .i64 0, .int .i64 0, .int .i64 0, .int .i64 0]) 12 80 := zz (by kernel_rfl) rfl
theorem zv6 : zM Tryz.prog 130 (.agg #[.int .i64 0, .bool false, .bool false, .bool false, .int .i64 0]) 5 24 := zz (by kernel_rfl) rfl
theorem zv7 : zM Tryz.prog 133 (.agg #[.int .i64 0, .bool false, .bool false]) 3 16 := zz (by kernel_rfl) rfl
theorem zv8 : zM Tryz.prog 232 (.agg #[.int .i64 0, .int .i64 0, .int .i64 0, .int .i64 0, .bool false, .int .i64 0, .int .i64 0]) 7 56 := zz (by kernel_rfl) rfl
theorem sl22 : slOk Tryz.prog 22 76 = true := by kernel_rfl
theorem sl27 : slOk Tryz.prog 27 41 = true := by kernel_rfl
theorem sl54 : slOk Tryz.prog 54 25 = true := by kernel_rfl
theorem sl55 : slOk Tryz.prog 55 27 = true := by kernel_rfl
theorem sl59 : slOk Tryz.prog 59 3 = true := by kernel_rfl
theorem sl62 : slOk Tryz.prog 62 35 = true := by kernel_rfl
theorem sl78 : slOk Tryz.prog 78 80 = true := by kernel_rfl
theorem sl91 : slOk Tryz.prog 91 4 = true := by kernel_rfl
theorem zoG : slOk Tryz.prog 101 55 = true := by kernel_rfl
theorem ziw : slOk Tryz.prog 114 120 = true := by kernel_rfl
theorem zv9 : slOk Tryz.prog 125 130 = true := by kernel_rfl
theorem zwa : slOk Tryz.prog 134 133 = true := by kernel_rfl
theorem zrC : slOk Tryz.prog 183 59 = true := by kernel_rfl
theorem zoH : slOk Tryz.prog 228 232 = true := by kernel_rfl
theorem zsW : yR Tryz.prog 25 0 0 = true := by kernel_rfl
theorem zsX : yR Tryz.prog 25 1 1 = true := by kernel_rfl
theorem zsY : yR Tryz.prog 32 0 0 = true := by kernel_rfl
theorem zsZ : yR Tryz.prog 32 1 1 = true := by kernel_rfl
theorem zs0 : yR Tryz.prog 32 2 2 = true := by kernel_rfl
theorem zs1 : yR Tryz.prog 32 3 3 = true := by kernel_rfl
theorem zs2 : yR Tryz.prog 35 0 0 = true := by kernel_rfl
theorem zs3 : yR Tryz.prog 35 1 1 = true := by kernel_rfl
theorem zs4 : yR Tryz.prog 35 2 2 = true := by kernel_rfl
theorem zs5 : yR Tryz.prog 41 0 0 = true := by kernel_rfl
theorem zs6 : yR Tryz.prog 41 1 1 = true := by kernel_rfl
theorem zs7 : yR Tryz.prog 41 4 4 = true := by kernel_rfl
theorem zs8 : yR Tryz.prog 76 0 0 = true := by kernel_rfl
theorem zs9 : yR Tryz.prog 76 1 2 = true := by kernel_rfl
theorem zta : yR Tryz.prog 80 0 0 = true := by kernel_rfl
theorem ztb : yR Tryz.prog 80 1 1 = true := by kernel_rfl
theorem ztc : yR Tryz.prog 80 2 2 = true := by kernel_rfl
theorem ztd : yR Tryz.prog 97 3 3 = true := by kernel_rfl
theorem zp1 : yR Tryz.prog 120 1 1 = true := by kernel_rfl
theorem zp2 : yR Tryz.prog 120 2 2 = true := by kernel_rfl
theorem zp3 : yR Tryz.prog 120 3 3 = true := by kernel_rfl
theorem zp4 : yR Tryz.prog 120 4 4 = true := by kernel_rfl
theorem zp5 : yR Tryz.prog 120 5 5 = true := by kernel_rfl
theorem zp6 : yR Tryz.prog 120 6 6 = true := by kernel_rfl
theorem zp7 : yR Tryz.prog 120 7 8 = true := by kernel_rfl
theorem zp8 : yR Tryz.prog 120 8 10 = true := by kernel_rfl
theorem zp9 : yR Tryz.prog 130 0 0 = true := by kernel_rfl
theorem zqa : yR Tryz.prog 130 1 1 = true := by kernel_rfl
theorem zqb : yR Tryz.prog 130 2 2 = true := by kernel_rfl
theorem zqc : yR Tryz.prog 130 3 3 = true := by kernel_rfl
theorem zqd : yR Tryz.prog 130 4 4 = true := by kernel_rfl
theorem zqe : yR Tryz.prog 133 0 0 = true := by kernel_rfl
theorem zqf : yR Tryz.prog 133 1 1 = true := by kernel_rfl
theorem zqg : yR Tryz.prog 133 2 2 = true := by kernel_rfl
theorem zqh : yR Tryz.prog 153 0 0 = true := by kernel_rfl
theorem zqi : yR Tryz.prog 158 0 0 = true := by kernel_rfl
theorem zqj : yR Tryz.prog 158 1 4 = true := by kernel_rfl
theorem zqk : yR Tryz.prog 158 2 5 = true := by kernel_rfl
theorem zql : yR Tryz.prog 158 3 6 = true := by kernel_rfl
theorem zqm : yR Tryz.prog 170 0 0 = true := by kernel_rfl
theorem zqn : yR Tryz.prog 170 1 1 = true := by kernel_rfl
theorem zqo : yR Tryz.prog 170 2 2 = true := by kernel_rfl
theorem zqp : yR Tryz.prog 170 3 3 = true := by kernel_rfl
theorem zqq : yR Tryz.prog 232 0 0 = true := by kernel_rfl
theorem zqr : yR Tryz.prog 232 1 1 = true := by kernel_rfl
theorem zqs : yR Tryz.prog 232 2 2 = true := by kernel_rfl
theorem zqt : yR Tryz.prog 232 3 3 = true := by kernel_rfl
theorem zqu : yR Tryz.prog 232 4 4 = true := by kernel_rfl
theorem zqv : yR Tryz.prog 232 5 5 = true := by kernel_rfl
theorem zqw : yR Tryz.prog 240 0 0 = true := by kernel_rfl
theorem zqx : yR Tryz.prog 243 0 0 = true := by kernel_rfl
theorem zqy : yR Tryz.prog 243 1 1 = true := by kernel_rfl
theorem zqz : yR Tryz.prog 243 2 2 = true := by kernel_rfl
theorem zqA : yR Tryz.prog 243 3 4 = true := by kernel_rfl
theorem zqB : yR Tryz.prog 264 0 0 = true := by kernel_rfl
theorem zqC : yR Tryz.prog 264 1 1 = true := by kernel_rfl
theorem zqD : yR Tryz.prog 264 2 2 = true := by kernel_rfl
theorem zqE : yR Tryz.prog 277 0 0 = true := by kernel_rfl
theorem zqF : yR Tryz.prog 277 1 1 = true := by kernel_rfl
theorem zqG : yR Tryz.prog 277 2 2 = true := by kernel_rfl
theorem pl25 : zY Tryz.prog 25 = some [(0, 1), (1, 1)] := by kernel_rfl
theorem ia25 : zw Tryz.prog 25 = true := by kernel_rfl
theorem pl32 : zY Tryz.prog 32 = some [(0, 1), (1, 1), (2, 1), (3, 1)] := by kernel_rfl
theorem ia32 : zw Tryz.prog 32 = true := by kernel_rfl
theorem pl35 : zY Tryz.prog 35 = some [(0, 1), (1, 1), (2, 1)] := by kernel_rfl
theorem ia35 : zw Tryz.prog 35 = true := by kernel_rfl
theorem pl41 : zY Tryz.prog 41 = some [(0, 1), (1, 1), (2, 1), (3, 1), (4, 1), (5, 1), (6, 1), (7, 1), (8, 4), (12, 1), (13, 1), (14, 1), (15, 2)] := by kernel_rfl
theorem ia41 : zw Tryz.prog 41 = true := by kernel_rfl
theorem pl76 : zY Tryz.prog 76 = some [(0, 2), (2, 1)] := by kernel_rfl
theorem ia76 : zw Tryz.prog 76 = true := by kernel_rfl
theorem pl80 : zY Tryz.prog 80 = some [(0, 1), (1, 1), (2, 1)] := by kernel_rfl
theorem ia80 : zw Tryz.prog 80 = true := by kernel_rfl
theorem pl97 : zY Tryz.prog 97 = some [(0, 1), (1, 1), (2, 1), (3, 1)] := by kernel_rfl
theorem ia97 : zw Tryz.prog 97 = true := by kernel_rfl
theorem zwb : zY Tryz.prog 120 = some [(0, 1), (1, 1), (2, 1), (3, 1), (4, 1), (5, 1), (6, 2), (8, 2), (10, 2)] := by kernel_rfl
theorem zwc : zw Tryz.prog 120 = true := by kernel_rfl
theorem zwd : zY Tryz.prog 130 = some [(0, 1), (1, 1), (2, 1), (3, 1), (4, 1)] := by kernel_rfl
theorem zwe : zw Tryz.prog 130 = true := by kernel_rfl
theorem zwf : zY Tryz.prog 133 = some [(0, 1), (1, 1), (2, 1)] := by kernel_rfl
theorem zwg : zw Tryz.prog 133 = true := by kernel_rfl
theorem zwh : zY Tryz.prog 153 = some [(0, 1)] := by kernel_rfl
theorem zwi : zw Tryz.prog 153 = true := by kernel_rfl
theorem zwj : zY Tryz.prog 158 = some [(0, 4), (4, 1), (5, 1), (6, 1)] := by kernel_rfl
theorem zwk : zw Tryz.prog 158 = true := by kernel_rfl
theorem zwl : zY Tryz.prog 170 = some [(0, 1), (1, 1), (2, 1), (3, 1)] := by kernel_rfl
theorem zwm : zw Tryz.prog 170 = true := by kernel_rfl
theorem zwn : zY Tryz.prog 232 = some [(0, 1), (1, 1), (2, 1), (3, 1), (4, 1), (5, 2)] := by kernel_rfl
theorem zwo : zw Tryz.prog 232 = true := by kernel_rfl
theorem zwp : zY Tryz.prog 240 = some [(0, 1)] := by kernel_rfl
theorem zwq : zw Tryz.prog 240 = true := by kernel_rfl
theorem zwr : zY Tryz.prog 243 = some [(0, 1), (1, 1), (2, 2), (4, 1)] := by kernel_rfl
theorem zws : zw Tryz.prog 243 = true := by kernel_rfl
theorem zwt : zY Tryz.prog 264 = some [(0, 1), (1, 1), (2, 1)] := by kernel_rfl
theorem zwu : zw Tryz.prog 264 = true := by kernel_rfl
theorem zwv : zY Tryz.prog 277 = some [(0, 1), (1, 1), (2, 1)] := by kernel_rfl
theorem zww : zw Tryz.prog 277 = true := by kernel_rfl
theorem ar89 : zck Tryz.prog 89 8 4 = true := by kernel_rfl
theorem zoI : zck Tryz.prog 121 4 3 = true := by kernel_rfl
theorem zwx : zck Tryz.prog 171 9 170 = true := by kernel_rfl
theorem zwy : zck Tryz.prog 197 3 25 = true := by kernel_rfl
theorem zwz : zck Tryz.prog 265 5 264 = true := by kernel_rfl
theorem zwA : zck Tryz.prog 284 3 4 = true := by kernel_rfl
theorem zwB : zck Tryz.prog 285 5 284 = true := by kernel_rfl
theorem zwC : (eqOk Tryz.prog 5 25 && decide (5 <= 10000)) = true := by kernel_rfl
theorem fl25 : flat Tryz.prog 5 25 = [1, 1] := by kernel_rfl
theorem zwD : (eqOk Tryz.prog 5 35 && decide (5 <= 10000)) = true := by kernel_rfl
theorem fl35 : flat Tryz.prog 5 35 = [2, 2, 2] := by kernel_rfl
theorem zwE : (eqOk Tryz.prog 5 41 && decide (5 <= 10000)) = true := by kernel_rfl
theorem fl41 : flat Tryz.prog 5 41 = [1, 1, 1, 1, 2, 1, 2, 2, 1, 1, 1, 1, 2, 1, 1, 1, 1] := by kernel_rfl
theorem zwF : (eqOk Tryz.prog 5 76 && decide (5 <= 10000)) = true := by kernel_rfl
theorem fl76 : flat Tryz.prog 5 76 = [1, 1, 2] := by kernel_rfl
theorem eq25 : (eqOk Tryz.prog 5 25 && decide (5 <= 10000)) = true := zwC
theorem eg25 : Tryz.prog.eqGuardType Tryz.prog.depth 25 = false := by kernel_rfl
theorem eq35 : (eqOk Tryz.prog 5 35 && decide (5 <= 10000)) = true := zwD
theorem eg35 : Tryz.prog.eqGuardType Tryz.prog.depth 35 = false := by kernel_rfl
theorem eq41 : (eqOk Tryz.prog 5 41 && decide (5 <= 10000)) = true := zwE
theorem eg41 : Tryz.prog.eqGuardType Tryz.prog.depth 41 = false := by kernel_rfl
theorem eq76 : (eqOk Tryz.prog 5 76 && decide (5 <= 10000)) = true := zwF
theorem eg76 : Tryz.prog.eqGuardType Tryz.prog.depth 76 = false := by kernel_rfl
theorem mo : Tryz.prog.follows .mixedOrders = true := by kernel_rfl
end Go.Rse
