/-
  zca facts on the types, fields and functions of the translation: printed by program (genty.py).
-/
import Derived.Test.YtkpbljifckjeoaaGreatDoorProg
import Derived.Test.YtkpbljifckjeoaaGreatDoorQLogA
import Derived.KernelRfl
namespace Go.Rse
open Go Go.Proofs
theorem ty3 : tyOk Tryz.prog 3 false 1 = true := by kernel_rfl
theorem ty4 : tyOk Tryz.prog 4 false 1 = true := by kernel_rfl
theorem ty22 : tyOk Tryz.prog 22 false 1 = true := by kernel_rfl
theorem ty25 : tyOk Tryz.prog 25 true 2 = true := by kernel_rfl
theorem ty27 : tyOk Tryz.prog 27 false 1 = true := by kernel_rfl
theorem ty28 : tyOk Tryz.prog 28 false 1 = true := by kernel_rfl
theorem ty32 : tyOk Tryz.prog 32 true 4 = true := by kernel_rfl
theorem ty35 : tyOk Tryz.prog 35 true 3 = true := by kernel_rfl
theorem ty41 : tyOk Tryz.prog 41 true 17 = true := by kernel_rfl
theorem ty54 : tyOk Tryz.prog 54 false 1 = true := by kernel_rfl
theorem ty55 : tyOk Tryz.prog 55 false 1 = true := by kernel_rfl
theorem ty59 : tyOk Tryz.prog 59 false 1 = true := by kernel_rfl
theorem ty76 : tyOk Tryz.prog 76 true 3 = true := by kernel_rfl
theorem ty80 : tyOk Tryz.prog 80 true 3 = true := by kernel_rfl
theorem ty91 : tyOk Tryz.prog 91 false 1 = true := by kernel_rfl
theorem ty97 : tyOk Tryz.prog 97 true 4 = true := by kernel_rfl
theorem zsN : tyOk Tryz.prog 101 false 1 = true := by kernel_rfl
theorem zsO : tyOk Tryz.prog 103 false 1 = true := by kernel_rfl
theorem zsP : tyOk Tryz.prog 107 false 1 = true := by kernel_rfl
theorem zsQ : tyOk Tryz.prog 114 false 1 = true := by kernel_rfl
theorem zjq : tyOk Tryz.prog 120 true 12 = true := by kernel_rfl
theorem zpy : tyOk Tryz.prog 121 true 4 = true := by kernel_rfl
theorem zsR : tyOk Tryz.prog 130 true 5 = true := by kernel_rfl
theorem zpz : tyOk Tryz.prog 133 true 3 = true := by kernel_rfl
theorem zsS : tyOk Tryz.prog 153 true 1 = true := by kernel_rfl
theorem zsT : tyOk Tryz.prog 168 false 1 = true := by kernel_rfl
theorem zsU : tyOk Tryz.prog 170 true 4 = true := by kernel_rfl
theorem zpA : tyOk Tryz.prog 171 true 36 = true := by kernel_rfl
theorem zsV : tyOk Tryz.prog 224 false 1 = true := by kernel_rfl
theorem zsW : tyOk Tryz.prog 228 false 1 = true := by kernel_rfl
theorem zm7 : tyOk Tryz.prog 232 true 7 = true := by kernel_rfl
theorem zsX : tyOk Tryz.prog 235 false 1 = true := by kernel_rfl
theorem zsY : tyOk Tryz.prog 240 true 1 = true := by kernel_rfl
theorem zsZ : tyOk Tryz.prog 241 false 1 = true := by kernel_rfl
theorem zs0 : tyOk Tryz.prog 249 false 1 = true := by kernel_rfl
theorem zs1 : tyOk Tryz.prog 262 false 1 = true := by kernel_rfl
theorem zs2 : tyOk Tryz.prog 264 true 3 = true := by kernel_rfl
theorem zpB : tyOk Tryz.prog 265 true 15 = true := by kernel_rfl
theorem zs3 : tyOk Tryz.prog 277 true 3 = true := by kernel_rfl
theorem zs4 : tyOk Tryz.prog 284 true 3 = true := by kernel_rfl
theorem zs5 : tyOk Tryz.prog 285 true 15 = true := by kernel_rfl
theorem ze3 : (Tryz.prog.info? 3).bind (·.zero) = some (.int .i64 0) := by kernel_rfl
theorem zc3 : zj Tryz.prog 3 [.int .i64 0] := ⟨_, ze3, rfl⟩
theorem ze4 : (Tryz.prog.info? 4).bind (·.zero) = some (.bool false) := by kernel_rfl
theorem zc4 : zj Tryz.prog 4 [.bool false] := ⟨_, ze4, rfl⟩
theorem ze25 : (Tryz.prog.info? 25).bind (·.zero) = some (.agg #[.int .i64 0, .int .i64 0]) := by kernel_rfl
theorem zc25 : zj Tryz.prog 25 [.int .i64 0, .int .i64 0] := ⟨_, ze25, rfl⟩
theorem ze27 : (Tryz.prog.info? 27).bind (·.zero) = some (.slice none 0 0) := by kernel_rfl
theorem ze28 : (Tryz.prog.info? 28).bind (·.zero) = some (.int .i64 0) := by kernel_rfl
theorem zc28 : zj Tryz.prog 28 [.int .i64 0] := ⟨_, ze28, rfl⟩
theorem ze32 : (Tryz.prog.info? 32).bind (·.zero) = some (.agg #[.int .i64 0, .int .i64 0, .int .i64 0, .int .i64 0]) := by kernel_rfl
theorem zc32 : zj Tryz.prog 32 [.int .i64 0, .int .i64 0, .int .i64 0, .int .i64 0] := ⟨_, ze32, rfl⟩
theorem ze35 : (Tryz.prog.info? 35).bind (·.zero) = some (.agg #[.bool false, .bool false, .bool false]) := by kernel_rfl
theorem zc35 : zj Tryz.prog 35 [.bool false, .bool false, .bool false] := ⟨_, ze35, rfl⟩
theorem ze41 : (Tryz.prog.info? 41).bind (·.zero) = some (.agg #[.int .i64 0, .int .i64 0, .int .i64 0, .int .i64 0, .bool false, .int .i64 0, .bool false, .bool false, .int .i64 0, .int .i64 0, .int .i64 0, .int .i64 0, .bool false, .int .i64 0, .int .i64 0, .int .i64 0, .int .i64 0]) := by kernel_rfl
theorem zc41 : zj Tryz.prog 41 [.int .i64 0, .int .i64 0, .int .i64 0, .int .i64 0, .bool false, .int .i64 0, .bool false, .bool false, .int .i64 0, .int .i64 0, .int .i64 0, .int .i64 0, .bool false, .int .i64 0, .int .i64 0, .int .i64 0, .int .i64 0] := ⟨_, ze41, rfl⟩
theorem ze54 : (Tryz.prog.info? 54).bind (·.zero) = some (.slice none 0 0) := by kernel_rfl
theorem zc54 : zj Tryz.prog 54 [.nils] := ⟨_, ze54, rfl⟩
theorem ze55 : (Tryz.prog.info? 55).bind (·.zero) = some (.slice none 0 0) := by kernel_rfl
theorem zc55 : zj Tryz.prog 55 [.nils] := ⟨_, ze55, rfl⟩
theorem ze59 : (Tryz.prog.info? 59).bind (·.zero) = some (.slice none 0 0) := by kernel_rfl
theorem zc59 : zj Tryz.prog 59 [.nils] := ⟨_, ze59, rfl⟩
theorem ze76 : (Tryz.prog.info? 76).bind (·.zero) = some (.agg #[.int .i64 0, .int .i64 0, .bool false]) := by kernel_rfl
theorem zc76 : zj Tryz.prog 76 [.int .i64 0, .int .i64 0, .bool false] := ⟨_, ze76, rfl⟩
theorem ze80 : (Tryz.prog.info? 80).bind (·.zero) = some (.agg #[.int .i64 0, .int .i64 0, .slice none 0 0]) := by kernel_rfl
theorem zc80 : zj Tryz.prog 80 [.int .i64 0, .int .i64 0, .nils] := ⟨_, ze80, rfl⟩
theorem ze89 : (Tryz.prog.info? 89).bind (·.zero) = some (.agg #[.bool false, .bool false, .bool false, .bool false, .bool false, .bool false, .bool false, .bool false]) := by kernel_rfl
theorem zc89 : zj Tryz.prog 89 [.bool false, .bool false, .bool false, .bool false, .bool false, .bool false, .bool false, .bool false] := ⟨_, ze89, rfl⟩
theorem ze91 : (Tryz.prog.info? 91).bind (·.zero) = some (.slice none 0 0) := by kernel_rfl
theorem zc91 : zj Tryz.prog 91 [.nils] := ⟨_, ze91, rfl⟩
theorem ze97 : (Tryz.prog.info? 97).bind (·.zero) = some (.agg #[.slice none 0 0, .slice none 0 0, .slice none 0 0, .slice none 0 0]) := by kernel_rfl
theorem zc97 : zj Tryz.prog 97 [.nils, .nils, .nils, .nils] := ⟨_, ze97, rfl⟩
theorem zs6 : (Tryz.prog.info? 114).bind (·.zero) = some (.slice none 0 0) := by kernel_rfl
theorem zs7 : zj Tryz.prog 114 [.nils] := ⟨_, zs6, rfl⟩
theorem zpC : (Tryz.prog.info? 120).bind (·.zero) = some (.agg #[.int .i64 0, .int .i64 0, .bool false, .bool false, .bool false, .int .i64 0, .int .i64 0, .int .i64 0, .int .i64 0, .int .i64 0, .int .i64 0, .int .i64 0]) := by kernel_rfl
theorem zhE : zj Tryz.prog 120 [.int .i64 0, .int .i64 0, .bool false, .bool false, .bool false, .int .i64 0, .int .i64 0, .int .i64 0, .int .i64 0, .int .i64 0, .int .i64 0, .int .i64 0] := ⟨_, zpC, rfl⟩
theorem zs8 : (Tryz.prog.info? 121).bind (·.zero) = some (.agg #[.int .i64 0, .int .i64 0, .int .i64 0, .int .i64 0]) := by kernel_rfl
theorem zs9 : zj Tryz.prog 121 [.int .i64 0, .int .i64 0, .int .i64 0, .int .i64 0] := ⟨_, zs8, rfl⟩
theorem zpD : (Tryz.prog.info? 130).bind (·.zero) = some (.agg #[.int .i64 0, .bool false, .bool false, .bool false, .int .i64 0]) := by kernel_rfl
theorem zta : zj Tryz.prog 130 [.int .i64 0, .bool false, .bool false, .bool false, .int .i64 0] := ⟨_, zpD, rfl⟩
theorem zpE : (Tryz.prog.info? 133).bind (·.zero) = some (.agg #[.int .i64 0, .bool false, .bool false]) := by kernel_rfl
theorem ztb : zj Tryz.prog 133 [.int .i64 0, .bool false, .bool false] := ⟨_, zpE, rfl⟩
theorem ztc : (Tryz.prog.info? 153).bind (·.zero) = some (.agg #[.int .i64 0]) := by kernel_rfl
theorem ztd : zj Tryz.prog 153 [.int .i64 0] := ⟨_, ztc, rfl⟩
theorem zte : (Tryz.prog.info? 158).bind (·.zero) = some (.agg #[.int .i64 0, .int .i64 0, .int .i64 0, .int .i64 0, .slice none 0 0, .slice none 0 0, .slice none 0 0]) := by kernel_rfl
theorem ztf : zj Tryz.prog 158 [.int .i64 0, .int .i64 0, .int .i64 0, .int .i64 0, .nils, .nils, .nils] := ⟨_, zte, rfl⟩
theorem ztg : (Tryz.prog.info? 170).bind (·.zero) = some (.agg #[.bool false, .bool false, .bool false, .nilFunc]) := by kernel_rfl
theorem zth : zj Tryz.prog 170 [.bool false, .bool false, .bool false, .nilf] := ⟨_, ztg, rfl⟩
theorem zti : (Tryz.prog.info? 171).bind (·.zero) = some (.agg #[.bool false, .bool false, .bool false, .nilFunc, .bool false, .bool false, .bool false, .nilFunc, .bool false, .bool false, .bool false, .nilFunc, .bool false, .bool false, .bool false, .nilFunc, .bool false, .bool false, .bool false, .nilFunc, .bool false, .bool false, .bool false, .nilFunc, .bool false, .bool false, .bool false, .nilFunc, .bool false, .bool false, .bool false, .nilFunc, .bool false, .bool false, .bool false, .nilFunc]) := by kernel_rfl
theorem ztj : zj Tryz.prog 171 [.bool false, .bool false, .bool false, .nilf, .bool false, .bool false, .bool false, .nilf, .bool false, .bool false, .bool false, .nilf, .bool false, .bool false, .bool false, .nilf, .bool false, .bool false, .bool false, .nilf, .bool false, .bool false, .bool false, .nilf, .bool false, .bool false, .bool false, .nilf, .bool false, .bool false, .bool false, .nilf, .bool false, .bool false, .bool false, .nilf] := ⟨_, zti, rfl⟩
theorem ztk : (Tryz.prog.info? 197).bind (·.zero) = some (.agg #[.int .i64 0, .int .i64 0, .int .i64 0, .int .i64 0, .int .i64 0, .int .i64 0]) := by kernel_rfl
theorem ztl : zj Tryz.prog 197 [.int .i64 0, .int .i64 0, .int .i64 0, .int .i64 0, .int .i64 0, .int .i64 0] := ⟨_, ztk, rfl⟩
theorem ztm : (Tryz.prog.info? 224).bind (·.zero) = some (.nilFunc) := by kernel_rfl
theorem ztn : zj Tryz.prog 224 [.nilf] := ⟨_, ztm, rfl⟩
theorem zto : (Tryz.prog.info? 228).bind (·.zero) = some (.slice none 0 0) := by kernel_rfl
theorem ztp : zj Tryz.prog 228 [.nils] := ⟨_, zto, rfl⟩
theorem zm8 : (Tryz.prog.info? 232).bind (·.zero) = some (.agg #[.int .i64 0, .int .i64 0, .int .i64 0, .int .i64 0, .bool false, .int .i64 0, .int .i64 0]) := by kernel_rfl
theorem ztq : zj Tryz.prog 232 [.int .i64 0, .int .i64 0, .int .i64 0, .int .i64 0, .bool false, .int .i64 0, .int .i64 0] := ⟨_, zm8, rfl⟩
theorem ztr : (Tryz.prog.info? 240).bind (·.zero) = some (.agg #[.slice none 0 0]) := by kernel_rfl
theorem zts : zj Tryz.prog 240 [.nils] := ⟨_, ztr, rfl⟩
theorem ztt : (Tryz.prog.info? 243).bind (·.zero) = some (.agg #[.slice none 0 0, .int .i64 0, .int .i64 0, .int .i64 0, .map none]) := by kernel_rfl
theorem ztu : (Tryz.prog.info? 249).bind (·.zero) = some (.nilFunc) := by kernel_rfl
theorem ztv : zj Tryz.prog 249 [.nilf] := ⟨_, ztu, rfl⟩
theorem ztw : (Tryz.prog.info? 264).bind (·.zero) = some (.agg #[.nilFunc, .int .i64 0, .int .i64 0]) := by kernel_rfl
theorem ztx : (Tryz.prog.info? 265).bind (·.zero) = some (.agg #[.nilFunc, .int .i64 0, .int .i64 0, .nilFunc, .int .i64 0, .int .i64 0, .nilFunc, .int .i64 0, .int .i64 0, .nilFunc, .int .i64 0, .int .i64 0, .nilFunc, .int .i64 0, .int .i64 0]) := by kernel_rfl
theorem zty : zj Tryz.prog 265 [.nilf, .int .i64 0, .int .i64 0, .nilf, .int .i64 0, .int .i64 0, .nilf, .int .i64 0, .int .i64 0, .nilf, .int .i64 0, .int .i64 0, .nilf, .int .i64 0, .int .i64 0] := ⟨_, ztx, rfl⟩
theorem ztz : (Tryz.prog.info? 277).bind (·.zero) = some (.agg #[.int .i64 0, .int .i64 0, .bool false]) := by kernel_rfl
theorem ztA : zj Tryz.prog 277 [.int .i64 0, .int .i64 0, .bool false] := ⟨_, ztz, rfl⟩
theorem ztB : (Tryz.prog.info? 284).bind (·.zero) = some (.agg #[.bool false, .bool false, .bool false]) := by kernel_rfl
theorem ztC : zj Tryz.prog 284 [.bool false, .bool false, .bool false] := ⟨_, ztB, rfl⟩
theorem ztD : (Tryz.prog.info? 285).bind (·.zero) = some (.agg #[.bool false, .bool false, .bool false, .bool false, .bool false, .bool false, .bool false, .bool false, .bool false, .bool false, .bool false, .bool false, .bool false, .bool false, .bool false]) := by kernel_rfl
theorem zpF : zj Tryz.prog 285 [.bool false, .bool false, .bool false, .bool false, .bool false, .bool false, .bool false, .bool false, .bool false, .bool false, .bool false, .bool false, .bool false, .bool false, .bool false] := ⟨_, ztD, rfl⟩
theorem ti3 : zN Tryz.prog 3 (.int .i64 0) 1 8 := zF (by kernel_rfl) rfl
theorem ti4 : zN Tryz.prog 4 (.bool false) 1 1 := zF (by kernel_rfl) rfl
theorem ti25 : zN Tryz.prog 25 (.agg #[.int .i64 0, .int .i64 0]) 2 16 := zF (by kernel_rfl) rfl
theorem ti27 : zN Tryz.prog 27 (.slice none 0 0) 1 24 := zF (by kernel_rfl) rfl
theorem ti35 : zN Tryz.prog 35 (.agg #[.bool false, .bool false, .bool false]) 3 3 := zF (by kernel_rfl) rfl
theorem ti41 : zN Tryz.prog 41 (.agg #[.int .i64 0, .int .i64 0, .int .i64 0, .int .i64 0, .bool false, .int .i64 0, .bool false, .bool false, .int .i64 0, .int .i64 0, .int .i64 0, .int .i64 0, .bool false, .int .i64 0, .int .i64 0, .int .i64 0, .int .i64 0]) 17 128 := zF (by kernel_rfl) rfl
theorem ti55 : zN Tryz.prog 55 (.slice none 0 0) 1 24 := zF (by kernel_rfl) rfl
theorem ti59 : zN Tryz.prog 59 (.slice none 0 0) 1 24 := zF (by kernel_rfl) rfl
theorem ti76 : zN Tryz.prog 76 (.agg #[.int .i64 0, .int .i64 0, .bool false]) 3 24 := zF (by kernel_rfl) rfl
theorem ti80 : zN Tryz.prog 80 (.agg #[.int .i64 0, .int .i64 0, .slice none 0 0]) 3 40 := zF (by kernel_rfl) rfl
theorem ztE : zN Tryz.prog 120 (.agg #[.int .i64 0, .int .i64 0, .bool false, .bool false, .bool false, .int .i64 0, .int .i64 0, .int .i64 0, .int .i64 0, .int .i64 0, .int .i64 0, .int .i64 0]) 12 80 := zF (by kernel_rfl) rfl
theorem ztF : zN Tryz.prog 130 (.agg #[.int .i64 0, .bool false, .bool false, .bool false, .int .i64 0]) 5 24 := zF (by kernel_rfl) rfl
theorem ztG : zN Tryz.prog 133 (.agg #[.int .i64 0, .bool false, .bool false]) 3 16 := zF (by kernel_rfl) rfl
theorem ztH : zN Tryz.prog 232 (.agg #[.int .i64 0, .int .i64 0, .int .i64 0, .int .i64 0, .bool false, .int .i64 0, .int .i64 0]) 7 56 := zF (by kernel_rfl) rfl
theorem sl22 : slOk Tryz.prog 22 76 = true := by kernel_rfl
theorem sl27 : slOk Tryz.prog 27 41 = true := by kernel_rfl
theorem sl54 : slOk Tryz.prog 54 25 = true := by kernel_rfl
theorem sl55 : slOk Tryz.prog 55 27 = true := by kernel_rfl
theorem sl59 : slOk Tryz.prog 59 3 = true := by kernel_rfl
theorem sl62 : slOk Tryz.prog 62 35 = true := by kernel_rfl
theorem sl78 : slOk Tryz.prog 78 80 = true := by kernel_rfl
theorem sl91 : slOk Tryz.prog 91 4 = true := by kernel_rfl
theorem zm9 : slOk Tryz.prog 101 55 = true := by kernel_rfl
theorem zhF : slOk Tryz.prog 114 120 = true := by kernel_rfl
theorem ztI : slOk Tryz.prog 125 130 = true := by kernel_rfl
theorem ztJ : slOk Tryz.prog 134 133 = true := by kernel_rfl
theorem zpG : slOk Tryz.prog 183 59 = true := by kernel_rfl
theorem zna : slOk Tryz.prog 228 232 = true := by kernel_rfl
theorem zqP : yS Tryz.prog 25 0 0 = true := by kernel_rfl
theorem zqQ : yS Tryz.prog 25 1 1 = true := by kernel_rfl
theorem zqR : yS Tryz.prog 32 0 0 = true := by kernel_rfl
theorem zqS : yS Tryz.prog 32 1 1 = true := by kernel_rfl
theorem zqT : yS Tryz.prog 32 2 2 = true := by kernel_rfl
theorem zqU : yS Tryz.prog 32 3 3 = true := by kernel_rfl
theorem zqV : yS Tryz.prog 35 0 0 = true := by kernel_rfl
theorem zqW : yS Tryz.prog 35 1 1 = true := by kernel_rfl
theorem zqX : yS Tryz.prog 35 2 2 = true := by kernel_rfl
theorem zqY : yS Tryz.prog 41 0 0 = true := by kernel_rfl
theorem zqZ : yS Tryz.prog 41 1 1 = true := by kernel_rfl
theorem zq0 : yS Tryz.prog 41 4 4 = true := by kernel_rfl
theorem zq1 : yS Tryz.prog 76 0 0 = true := by kernel_rfl
theorem zq2 : yS Tryz.prog 76 1 2 = true := by kernel_rfl
theorem zq3 : yS Tryz.prog 80 0 0 = true := by kernel_rfl
theorem zq4 : yS Tryz.prog 80 1 1 = true := by kernel_rfl
theorem zq5 : yS Tryz.prog 80 2 2 = true := by kernel_rfl
theorem zq6 : yS Tryz.prog 97 3 3 = true := by kernel_rfl
theorem zoo : yS Tryz.prog 120 1 1 = true := by kernel_rfl
theorem zop : yS Tryz.prog 120 2 2 = true := by kernel_rfl
theorem zoq : yS Tryz.prog 120 3 3 = true := by kernel_rfl
theorem zor : yS Tryz.prog 120 4 4 = true := by kernel_rfl
theorem zos : yS Tryz.prog 120 5 5 = true := by kernel_rfl
theorem zot : yS Tryz.prog 120 6 6 = true := by kernel_rfl
theorem zou : yS Tryz.prog 120 7 8 = true := by kernel_rfl
theorem zov : yS Tryz.prog 120 8 10 = true := by kernel_rfl
theorem zow : yS Tryz.prog 130 0 0 = true := by kernel_rfl
theorem zox : yS Tryz.prog 130 1 1 = true := by kernel_rfl
theorem zoy : yS Tryz.prog 130 2 2 = true := by kernel_rfl
theorem zoz : yS Tryz.prog 130 3 3 = true := by kernel_rfl
theorem zoA : yS Tryz.prog 130 4 4 = true := by kernel_rfl
theorem zoB : yS Tryz.prog 133 0 0 = true := by kernel_rfl
theorem zoC : yS Tryz.prog 133 1 1 = true := by kernel_rfl
theorem zoD : yS Tryz.prog 133 2 2 = true := by kernel_rfl
theorem zoE : yS Tryz.prog 153 0 0 = true := by kernel_rfl
theorem zoF : yS Tryz.prog 158 0 0 = true := by kernel_rfl
theorem zoG : yS Tryz.prog 158 1 4 = true := by kernel_rfl
theorem zoH : yS Tryz.prog 158 2 5 = true := by kernel_rfl
theorem zoI : yS Tryz.prog 158 3 6 = true := by kernel_rfl
theorem zoJ : yS Tryz.prog 170 0 0 = true := by kernel_rfl
theorem zoK : yS Tryz.prog 170 1 1 = true := by kernel_rfl
theorem zoL : yS Tryz.prog 170 2 2 = true := by kernel_rfl
theorem zoM : yS Tryz.prog 170 3 3 = true := by kernel_rfl
theorem zoN : yS Tryz.prog 232 0 0 = true := by kernel_rfl
theorem zoO : yS Tryz.prog 232 1 1 = true := by kernel_rfl
theorem zoP : yS Tryz.prog 232 2 2 = true := by kernel_rfl
theorem zoQ : yS Tryz.prog 232 3 3 = true := by kernel_rfl
theorem zoR : yS Tryz.prog 232 4 4 = true := by kernel_rfl
theorem zoS : yS Tryz.prog 232 5 5 = true := by kernel_rfl
theorem zoT : yS Tryz.prog 240 0 0 = true := by kernel_rfl
theorem zoU : yS Tryz.prog 243 0 0 = true := by kernel_rfl
theorem zoV : yS Tryz.prog 243 1 1 = true := by kernel_rfl
theorem zoW : yS Tryz.prog 243 2 2 = true := by kernel_rfl
theorem zoX : yS Tryz.prog 243 3 4 = true := by kernel_rfl
theorem zoY : yS Tryz.prog 264 0 0 = true := by kernel_rfl
theorem zoZ : yS Tryz.prog 264 1 1 = true := by kernel_rfl
theorem zo0 : yS Tryz.prog 264 2 2 = true := by kernel_rfl
theorem zo1 : yS Tryz.prog 277 0 0 = true := by kernel_rfl
theorem zo2 : yS Tryz.prog 277 1 1 = true := by kernel_rfl
theorem zo3 : yS Tryz.prog 277 2 2 = true := by kernel_rfl
theorem pl25 : zY Tryz.prog 25 = some [(0, 1), (1, 1)] := by kernel_rfl
theorem ia25 : zB Tryz.prog 25 = true := by kernel_rfl
theorem pl32 : zY Tryz.prog 32 = some [(0, 1), (1, 1), (2, 1), (3, 1)] := by kernel_rfl
theorem ia32 : zB Tryz.prog 32 = true := by kernel_rfl
theorem pl35 : zY Tryz.prog 35 = some [(0, 1), (1, 1), (2, 1)] := by kernel_rfl
theorem ia35 : zB Tryz.prog 35 = true := by kernel_rfl
theorem pl41 : zY Tryz.prog 41 = some [(0, 1), (1, 1), (2, 1), (3, 1), (4, 1), (5, 1), (6, 1), (7, 1), (8, 4), (12, 1), (13, 1), (14, 1), (15, 2)] := by kernel_rfl
theorem ia41 : zB Tryz.prog 41 = true := by kernel_rfl
theorem pl76 : zY Tryz.prog 76 = some [(0, 2), (2, 1)] := by kernel_rfl
theorem ia76 : zB Tryz.prog 76 = true := by kernel_rfl
theorem pl80 : zY Tryz.prog 80 = some [(0, 1), (1, 1), (2, 1)] := by kernel_rfl
theorem ia80 : zB Tryz.prog 80 = true := by kernel_rfl
theorem pl97 : zY Tryz.prog 97 = some [(0, 1), (1, 1), (2, 1), (3, 1)] := by kernel_rfl
theorem ia97 : zB Tryz.prog 97 = true := by kernel_rfl
theorem ztK : zY Tryz.prog 120 = some [(0, 1), (1, 1), (2, 1), (3, 1), (4, 1), (5, 1), (6, 2), (8, 2), (10, 2)] := by kernel_rfl
theorem ztL : zB Tryz.prog 120 = true := by kernel_rfl
theorem ztM : zY Tryz.prog 130 = some [(0, 1), (1, 1), (2, 1), (3, 1), (4, 1)] := by kernel_rfl
theorem ztN : zB Tryz.prog 130 = true := by kernel_rfl
theorem ztO : zY Tryz.prog 133 = some [(0, 1), (1, 1), (2, 1)] := by kernel_rfl
theorem ztP : zB Tryz.prog 133 = true := by kernel_rfl
theorem ztQ : zY Tryz.prog 153 = some [(0, 1)] := by kernel_rfl
theorem ztR : zB Tryz.prog 153 = true := by kernel_rfl
theorem ztS : zY Tryz.prog 158 = some [(0, 4), (4, 1), (5, 1), (6, 1)] := by kernel_rfl
theorem ztT : zB Tryz.prog 158 = true := by kernel_rfl
theorem ztU : zY Tryz.prog 170 = some [(0, 1), (1, 1), (2, 1), (3, 1)] := by kernel_rfl
theorem ztV : zB Tryz.prog 170 = true := by kernel_rfl
theorem ztW : zY Tryz.prog 232 = some [(0, 1), (1, 1), (2, 1), (3, 1), (4, 1), (5, 2)] := by kernel_rfl
theorem ztX : zB Tryz.prog 232 = true := by kernel_rfl
theorem ztY : zY Tryz.prog 240 = some [(0, 1)] := by kernel_rfl
theorem ztZ : zB Tryz.prog 240 = true := by kernel_rfl
theorem zt0 : zY Tryz.prog 243 = some [(0, 1), (1, 1), (2, 2), (4, 1)] := by kernel_rfl
theorem zt1 : zB Tryz.prog 243 = true := by kernel_rfl
theorem zt2 : zY Tryz.prog 264 = some [(0, 1), (1, 1), (2, 1)] := by kernel_rfl
theorem zt3 : zB Tryz.prog 264 = true := by kernel_rfl
theorem zt4 : zY Tryz.prog 277 = some [(0, 1), (1, 1), (2, 1)] := by kernel_rfl
theorem zt5 : zB Tryz.prog 277 = true := by kernel_rfl
theorem ar89 : zb2 Tryz.prog 89 8 4 = true := by kernel_rfl
theorem znb : zb2 Tryz.prog 121 4 3 = true := by kernel_rfl
theorem zt6 : zb2 Tryz.prog 171 9 170 = true := by kernel_rfl
theorem zt7 : zb2 Tryz.prog 197 3 25 = true := by kernel_rfl
theorem zt8 : zb2 Tryz.prog 265 5 264 = true := by kernel_rfl
theorem zt9 : zb2 Tryz.prog 284 3 4 = true := by kernel_rfl
theorem zua : zb2 Tryz.prog 285 5 284 = true := by kernel_rfl
theorem zub : (eqOk Tryz.prog 5 25 && decide (5 <= 10000)) = true := by kernel_rfl
theorem fl25 : flat Tryz.prog 5 25 = [1, 1] := by kernel_rfl
theorem zuc : (eqOk Tryz.prog 5 35 && decide (5 <= 10000)) = true := by kernel_rfl
theorem fl35 : flat Tryz.prog 5 35 = [2, 2, 2] := by kernel_rfl
theorem zud : (eqOk Tryz.prog 5 41 && decide (5 <= 10000)) = true := by kernel_rfl
theorem fl41 : flat Tryz.prog 5 41 = [1, 1, 1, 1, 2, 1, 2, 2, 1, 1, 1, 1, 2, 1, 1, 1, 1] := by kernel_rfl
theorem zue : (eqOk Tryz.prog 5 76 && decide (5 <= 10000)) = true := by kernel_rfl
theorem fl76 : flat Tryz.prog 5 76 = [1, 1, 2] := by kernel_rfl
theorem eq25 : (eqOk Tryz.prog 5 25 && decide (5 <= 10000)) = true := zub
theorem eg25 : Tryz.prog.eqGuardType Tryz.prog.depth 25 = false := by kernel_rfl
theorem eq35 : (eqOk Tryz.prog 5 35 && decide (5 <= 10000)) = true := zuc
theorem eg35 : Tryz.prog.eqGuardType Tryz.prog.depth 35 = false := by kernel_rfl
theorem eq41 : (eqOk Tryz.prog 5 41 && decide (5 <= 10000)) = true := zud
theorem eg41 : Tryz.prog.eqGuardType Tryz.prog.depth 41 = false := by kernel_rfl
theorem eq76 : (eqOk Tryz.prog 5 76 && decide (5 <= 10000)) = true := zue
theorem eg76 : Tryz.prog.eqGuardType Tryz.prog.depth 76 = false := by kernel_rfl
theorem mo : Tryz.prog.follows .mixedOrders = true := by kernel_rfl
end Go.Rse
