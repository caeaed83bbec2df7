/-
  zct facts on the types, fields and functions of the translation: printed by program (genty.py).
-/
import Derived.Test.YtkpbljifckjeoaaGreatDoorProg
import Derived.Test.YtkpbljifckjeoaaGreatDoorYLogA
import Derived.KernelRfl
namespace Go.Rse
open Go Go.Proofs
theorem ty3 : tyOk Tryz.prog 3 false 1 = true := by kernel_rfl
theorem ty4 : tyOk Tryz.prog 4 false 1 = true := by kernel_rfl
theorem ty22 : tyOk Tryz.prog 22 false 1 = true := by kernel_rfl
theorem ty25 : tyOk Tryz.prog 25 true 2 = true := by kernel_rfl
theorem ty27 : tyOk Tryz.prog 27 false 1 = true := by kernel_rfl
theorem ty28 : tyOk Tryz.prog 28 false 1 = true := by kernel_rfl
theorem ty32 : tyOk Tryz.prog 32 true 4 = true := by kernel_rfl
theorem ty35 : tyOk Tryz.prog 35 true 3 = true := by kernel_rfl
theorem ty41 : tyOk Tryz.prog 41 true 17 = true := by kernel_rfl
theorem ty54 : tyOk Tryz.prog 54 false 1 = true := by kernel_rfl
theorem ty55 : tyOk Tryz.prog 55 false 1 = true := by kernel_rfl
theorem ty59 : tyOk Tryz.prog 59 false 1 = true := by kernel_rfl
theorem ty76 : tyOk Tryz.prog 76 true 3 = true := by kernel_rfl
theorem ty80 : tyOk Tryz.prog 80 true 3 = true := by kernel_rfl
theorem ty91 : tyOk Tryz.prog 91 false 1 = true := by kernel_rfl
theorem ty97 : tyOk Tryz.prog 97 true 4 = true := by kernel_rfl
theorem zvR : tyOk Tryz.prog 101 false 1 = true := by kernel_rfl
theorem zvS : tyOk Tryz.prog 103 false 1 = true := by kernel_rfl
theorem zvT : tyOk Tryz.prog 107 false 1 = true := by kernel_rfl
theorem zvU : tyOk Tryz.prog 114 false 1 = true := by kernel_rfl
theorem zkx : tyOk Tryz.prog 120 true 12 = true := by kernel_rfl
theorem zrL : tyOk Tryz.prog 121 true 4 = true := by kernel_rfl
theorem zrM : tyOk Tryz.prog 130 true 5 = true := by kernel_rfl
theorem zrN : tyOk Tryz.prog 133 true 3 = true := by kernel_rfl
theorem zvV : tyOk Tryz.prog 153 true 1 = true := by kernel_rfl
theorem zvW : tyOk Tryz.prog 168 false 1 = true := by kernel_rfl
theorem zvX : tyOk Tryz.prog 170 true 4 = true := by kernel_rfl
theorem zrO : tyOk Tryz.prog 171 true 36 = true := by kernel_rfl
theorem zvY : tyOk Tryz.prog 224 false 1 = true := by kernel_rfl
theorem zvZ : tyOk Tryz.prog 228 false 1 = true := by kernel_rfl
theorem zo0 : tyOk Tryz.prog 232 true 7 = true := by kernel_rfl
theorem zv0 : tyOk Tryz.prog 235 false 1 = true := by kernel_rfl
theorem zv1 : tyOk Tryz.prog 240 true 1 = true := by kernel_rfl
theorem zv2 : tyOk Tryz.prog 241 false 1 = true := by kernel_rfl
theorem zv3 : tyOk Tryz.prog 249 false 1 = true := by kernel_rfl
theorem zv4 : tyOk Tryz.prog 262 false 1 = true := by kernel_rfl
theorem zv5 : tyOk Tryz.prog 264 true 3 = true := by kernel_rfl
theorem zrP : tyOk Tryz.prog 265 true 15 = true := by kernel_rfl
theorem zv6 : tyOk Tryz.prog 277 true 3 = true := by kernel_rfl
theorem zv7 : tyOk Tryz.prog 284 true 3 = true := by kernel_rfl
theorem zv8 : tyOk Tryz.prog 285 true 15 = true := by kernel_rfl
theorem ze3 : (Tryz.prog.info? 3).bind (·.zero) = some (.int .i64 0) := by kernel_rfl
theorem zc3 : zb Tryz.prog 3 [.int .i64 0] := ⟨_, ze3, rfl⟩
theorem ze4 : (Tryz.prog.info? 4).bind (·.zero) = some (.bool false) := by kernel_rfl
theorem zc4 : zb Tryz.prog 4 [.bool false] := ⟨_, ze4, rfl⟩
theorem ze25 : (Tryz.prog.info? 25).bind (·.zero) = some (.agg #[.int .i64 0, .int .i64 0]) := by kernel_rfl
theorem zc25 : zb Tryz.prog 25 [.int .i64 0, .int .i64 0] := ⟨_, ze25, rfl⟩
theorem ze27 : (Tryz.prog.info? 27).bind (·.zero) = some (.slice none 0 0) := by kernel_rfl
theorem ze28 : (Tryz.prog.info? 28).bind (·.zero) = some (.int .i64 0) := by kernel_rfl
theorem zc28 : zb Tryz.prog 28 [.int .i64 0] := ⟨_, ze28, rfl⟩
theorem ze32 : (Tryz.prog.info? 32).bind (·.zero) = some (.agg #[.int .i64 0, .int .i64 0, .int .i64 0, .int .i64 0]) := by kernel_rfl
theorem zc32 : zb Tryz.prog 32 [.int .i64 0, .int .i64 0, .int .i64 0, .int .i64 0] := ⟨_, ze32, rfl⟩
theorem ze35 : (Tryz.prog.info? 35).bind (·.zero) = some (.agg #[.bool false, .bool false, .bool false]) := by kernel_rfl
theorem zc35 : zb Tryz.prog 35 [.bool false, .bool false, .bool false] := ⟨_, ze35, rfl⟩
theorem ze41 : (Tryz.prog.info? 41).bind (·.zero) = some (.agg #[.int .i64 0, .int .i64 0, .int .i64 0, .int .i64 0, .bool false, .int .i64 0, .bool false, .bool false, .int .i64 0, .int .i64 0, .int .i64 0, .int .i64 0, .bool false, .int .i64 0, .int .i64 0, .int .i64 0, .int .i64 0]) := by kernel_rfl
theorem zc41 : zb Tryz.prog 41 [.int .i64 0, .int .i64 0, .int .i64 0, .int .i64 0, .bool false, .int .i64 0, .bool false, .bool false, .int .i64 0, .int .i64 0, .int .i64 0, .int .i64 0, .bool false, .int .i64 0, .int .i64 0, .int .i64 0, .int .i64 0] := ⟨_, ze41, rfl⟩
theorem ze54 : (Tryz.prog.info? 54).bind (·.zero) = some (.slice none 0 0) := by kernel_rfl
theorem zc54 : zb Tryz.prog 54 [.nils] := ⟨_, ze54, rfl⟩
theorem ze55 : (Tryz.prog.info? 55).bind (·.zero) = some (.slice none 0 0) := by kernel_rfl
theorem zc55 : zb Tryz.prog 55 [.nils] := ⟨_, ze55, rfl⟩
theorem ze59 : (Tryz.prog.info? 59).bind (·.zero) = some (.slice none 0 0) := by kernel_rfl
theorem zc59 : zb Tryz.prog 59 [.nils] := ⟨_, ze59, rfl⟩
theorem ze76 : (Tryz.prog.info? 76).bind (·.zero) = some (.agg #[.int .i64 0, .int .i64 0, .bool false]) := by kernel_rfl
theorem zc76 : zb Tryz.prog 76 [.int .i64 0, .int .i64 0, .bool false] := ⟨_, ze76, rfl⟩
theorem ze80 : (Tryz.prog.info? 80).bind (·.zero) = some (.agg #[.int .i64 0, .int .i64 0, .slice none 0 0]) := by kernel_rfl
theorem zc80 : zb Tryz.prog 80 [.int .i64 0, .int .i64 0, .nils] := ⟨_, ze80, rfl⟩
theorem ze89 : (Tryz.prog.info? 89).bind (·.zero) = some (.agg #[.bool false, .bool false, .bool false, .bool false, .bool false, .bool false, .bool false, .bool false]) := by kernel_rfl
theorem zc89 : zb Tryz.prog 89 [.bool false, .bool false, .bool false, .bool false, .bool false, .bool false, .bool false, .bool false] := ⟨_, ze89, rfl⟩
theorem ze91 : (Tryz.prog.info? 91).bind (·.zero) = some (.slice none 0 0) := by kernel_rfl
theorem zc91 : zb Tryz.prog 91 [.nils] := ⟨_, ze91, rfl⟩
theorem ze97 : (Tryz.prog.info? 97).bind (·.zero) = some (.agg #[.slice none 0 0, .slice none 0 0, .slice none 0 0, .slice none 0 0]) := by kernel_rfl
theorem zc97 : zb Tryz.prog 97 [.nils, .nils, .nils, .nils] := ⟨_, ze97, rfl⟩
theorem zv9 : (Tryz.prog.info? 114).bind (·.zero) = some (.slice none 0 0) := by kernel_rfl
theorem zwa : zb Tryz.prog 114 [.nils] := ⟨_, zv9, rfl⟩
theorem zrQ : (Tryz.prog.info? 120).bind (·.zero) = some (.agg #[.int .i64 0, .int .i64 0, .bool false, .bool false, .bool false, .int .i64 0, .int .i64 0, .int .i64 0, .int .i64 0, .int .i64 0, .int .i64 0, .int .i64 0]) := by kernel_rfl
theorem ziG : zb Tryz.prog 120 [.int .i64 0, .int .i64 0, .bool false, .bool false, .bool false, .int .i64 0, .int .i64 0, .int .i64 0, .int .i64 0, .int .i64 0, .int .i64 0, .int .i64 0] := ⟨_, zrQ, rfl⟩
theorem zwb : (Tryz.prog.info? 121).bind (·.zero) = some (.agg #[.int .i64 0, .int .i64 0, .int .i64 0, .int .i64 0]) := by kernel_rfl
theorem zwc : zb Tryz.prog 121 [.int .i64 0, .int .i64 0, .int .i64 0, .int .i64 0] := ⟨_, zwb, rfl⟩
theorem zrR : (Tryz.prog.info? 130).bind (·.zero) = some (.agg #[.int .i64 0, .bool false, .bool false, .bool false, .int .i64 0]) := by kernel_rfl
theorem zwd : zb Tryz.prog 130 [.int .i64 0, .bool false, .bool false, .bool false, .int .i64 0] := ⟨_, zrR, rfl⟩
theorem zrS : (Tryz.prog.info? 133).bind (·.zero) = some (.agg #[.int .i64 0, .bool false, .bool false]) := by kernel_rfl
theorem zwe : zb Tryz.prog 133 [.int .i64 0, .bool false, .bool false] := ⟨_, zrS, rfl⟩
theorem zwf : (Tryz.prog.info? 153).bind (·.zero) = some (.agg #[.int .i64 0]) := by kernel_rfl
theorem zwg : zb Tryz.prog 153 [.int .i64 0] := ⟨_, zwf, rfl⟩
theorem zwh : (Tryz.prog.info? 158).bind (·.zero) = some (.agg #[.int .i64 0, .int .i64 0, .int .i64 0, .int .i64 0, .slice none 0 0, .slice none 0 0, .slice none 0 0]) := by kernel_rfl
theorem zwi : zb Tryz.prog 158 [.int .i64 0, .int .i64 0, .int .i64 0, .int .i64 0, .nils, .nils, .nils] := ⟨_, zwh, rfl⟩
theorem zwj : (Tryz.prog.info? 170).bind (·.zero) = some (.agg #[.bool false, .bool false, .bool false, .nilFunc]) := by kernel_rfl
theorem zwk : zb Tryz.prog 170 [.bool false, .bool false, .bool false, .nilf] := ⟨_, zwj, rfl⟩
theorem zwl : (Tryz.prog.info? 171).bind (·.zero) = some (.agg #[.bool false, .bool false, .bool false, .nilFunc, .bool false, .bool false, .bool false, .nilFunc, .bool false, .bool false, .bool false, .nilFunc, .bool false, .bool false, .bool false, .nilFunc, .bool false, .bool false, .bool false, .nilFunc, .bool false, .bool false, .bool false, .nilFunc, .bool false, .bool false, .bool false, .nilFunc, .bool false, .bool false, .bool false, .nilFunc, .bool false, .bool false, .bool false, .nilFunc]) := by kernel_rfl
theorem zwm : zb Tryz.prog 171 [.bool false, .bool false, .bool false, .nilf, .bool false, .bool false, .bool false, .nilf, .bool false, .bool false, .bool false, .nilf, .bool false, .bool false, .bool false, .nilf, .bool false, .bool false, .bool false, .nilf, .bool false, .bool false, .bool false, .nilf, .bool false, .bool false, .bool false, .nilf, .bool false, .bool false, .bool false, .nilf, .bool false, .bool false, .bool false, .nilf] := ⟨_, zwl, rfl⟩
theorem zwn : (Tryz.prog.info? 197).bind (·.zero) = some (.agg #[.int .i64 0, .int .i64 0, .int .i64 0, .int .i64 0, .int .i64 0, .int .i64 0]) := by kernel_rfl
theorem zwo : zb Tryz.prog 197 [.int .i64 0, .int .i64 0, .int .i64 0, .int .i64 0, .int .i64 0, .int .i64 0] := ⟨_, zwn, rfl⟩
theorem zwp : (Tryz.prog.info? 224).bind (·.zero) = some (.nilFunc) := by kernel_rfl
theorem zwq : zb Tryz.prog 224 [.nilf] := ⟨_, zwp, rfl⟩
theorem zwr : (Tryz.prog.info? 228).bind (·.zero) = some (.slice none 0 0) := by kernel_rfl
theorem zws : zb Tryz.prog 228 [.nils] := ⟨_, zwr, rfl⟩
theorem zo1 : (Tryz.prog.info? 232).bind (·.zero) = some (.agg #[.int .i64 0, .int .i64 0, .int .i64 0, .int .i64 0, .bool false, .int .i64 0, .int .i64 0]) := by kernel_rfl
theorem zwt : zb Tryz.prog 232 [.int .i64 0, .int .i64 0, .int .i64 0, .int .i64 0, .bool false, .int .i64 0, .int .i64 0] := ⟨_, zo1, rfl⟩
theorem zwu : (Tryz.prog.info? 240).bind (·.zero) = some (.agg #[.slice none 0 0]) := by kernel_rfl
theorem zwv : zb Tryz.prog 240 [.nils] := ⟨_, zwu, rfl⟩
theorem zww : (Tryz.prog.info? 243).bind (·.zero) = some (.agg #[.slice none 0 0, .int .i64 0, .int .i64 0, .int .i64 0, .map none]) := by kernel_rfl
theorem zwx : (Tryz.prog.info? 249).bind (·.zero) = some (.nilFunc) := by kernel_rfl
theorem zwy : zb Tryz.prog 249 [.nilf] := ⟨_, zwx, rfl⟩
theorem zwz : (Tryz.prog.info? 264).bind (·.zero) = some (.agg #[.nilFunc, .int .i64 0, .int .i64 0]) := by kernel_rfl
theorem zwA : (Tryz.prog.info? 265).bind (·.zero) = some (.agg #[.nilFunc, .int .i64 0, .int .i64 0, .nilFunc, .int .i64 0, .int .i64 0, .nilFunc, .int .i64 0, .int .i64 0, .nilFunc, .int .i64 0, .int .i64 0, .nilFunc, .int .i64 0, .int .i64 0]) := by kernel_rfl
theorem zwB : zb Tryz.prog 265 [.nilf, .int .i64 0, .int .i64 0, .nilf, .int .i64 0, .int .i64 0, .nilf, .int .i64 0, .int .i64 0, .nilf, .int .i64 0, .int .i64 0, .nilf, .int .i64 0, .int .i64 0] := ⟨_, zwA, rfl⟩
theorem zwC : (Tryz.prog.info? 277).bind (·.zero) = some (.agg #[.int .i64 0, .int .i64 0, .bool false]) := by kernel_rfl
theorem zwD : zb Tryz.prog 277 [.int .i64 0, .int .i64 0, .bool false] := ⟨_, zwC, rfl⟩
theorem zwE : (Tryz.prog.info? 284).bind (·.zero) = some (.agg #[.bool false, .bool false, .bool false]) := by kernel_rfl
theorem zwF : zb Tryz.prog 284 [.bool false, .bool false, .bool false] := ⟨_, zwE, rfl⟩
theorem zwG : (Tryz.prog.info? 285).bind (·.zero) = some (.agg #[.bool false, .bool false, .bool false, .bool false, .bool false, .bool false, .bool false, .bool false, .bool false, .bool false, .bool false, .bool false, .bool false, .bool false, .bool false]) := by kernel_rfl
theorem zrT : zb Tryz.prog 285 [.bool false, .bool false, .bool false, .bool false, .bool false, .bool false, .bool false, .bool false, .bool false, .bool false, .bool false, .bool false, .bool false, .bool false, .bool false] := ⟨_, zwG, rfl⟩
theorem ti3 : zL Tryz.prog 3 (.int .i64 0) 1 8 := zA (by kernel_rfl) rfl
theorem ti4 : zL Tryz.prog 4 (.bool false) 1 1 := zA (by kernel_rfl) rfl
theorem ti25 : zL Tryz.prog 25 (.agg #[.int .i64 0, .int .i64 0]) 2 16 := zA (by kernel_rfl) rfl
theorem ti27 : zL Tryz.prog 27 (.slice none 0 0) 1 24 := zA (by kernel_rfl) rfl
theorem ti35 : zL Tryz.prog 35 (.agg #[.bool false, .bool false, .bool false]) 3 3 := zA (by kernel_rfl) rfl
theorem ti41 : zL Tryz.prog 41 (.agg #[.int .i64 0, .int .i64 0, .int .i64 0, .int .i64 0, .bool false, .int .i64 0, .bool false, .bool false, .int .i64 0, .int .i64 0, .int .i64 0, .int .i64 0, .bool false, .int .i64 0, .int .i64 0, .int .i64 0, .int .i64 0]) 17 128 := zA (by kernel_rfl) rfl
theorem ti55 : zL Tryz.prog 55 (.slice none 0 0) 1 24 := zA (by kernel_rfl) rfl
theorem ti59 : zL Tryz.prog 59 (.slice none 0 0) 1 24 := zA (by kernel_rfl) rfl
theorem ti76 : zL Tryz.prog 76 (.agg #[.int .i64 0, .int .i64 0, .bool false]) 3 24 := zA (by kernel_rfl) rfl
theorem ti80 : zL Tryz.prog 80 (.agg #[.int .i64 0, .int .i64 0, .slice none 0 0]) 3 40 := zA (by kernel_rfl) rfl
theorem zwH : zL Tryz.prog 120 (.agg #[.int .i64 0, .int .i64 0, .bool false, .bool false, .bool false, .int .i64 0, .int .i64 0, .int .i64 0, .int .i64 0, .int .i64 0, .int .i64 0, .int .i64 0]) 12 80 := zA (by kernel_rfl) rfl
theorem zwI : zL Tryz.prog 130 (.agg #[.int .i64 0, .bool false, .bool false, .bool false, .int .i64 0]) 5 24 := zA (by kernel_rfl) rfl
theorem zwJ : zL Tryz.prog 133 (.agg #[.int .i64 0, .bool false, .bool false]) 3 16 := zA (by kernel_rfl) rfl
theorem zwK : zL Tryz.prog 232 (.agg #[.int .i64 0, .int .i64 0, .int .i64 0, .int .i64 0, .bool false, .int .i64 0, .int .i64 0]) 7 56 := zA (by kernel_rfl) rfl
theorem sl22 : slOk Tryz.prog 22 76 = true := by kernel_rfl
theorem sl27 : slOk Tryz.prog 27 41 = true := by kernel_rfl
theorem sl54 : slOk Tryz.prog 54 25 = true := by kernel_rfl
theorem sl55 : slOk Tryz.prog 55 27 = true := by kernel_rfl
theorem sl59 : slOk Tryz.prog 59 3 = true := by kernel_rfl
theorem sl62 : slOk Tryz.prog 62 35 = true := by kernel_rfl
theorem sl78 : slOk Tryz.prog 78 80 = true := by kernel_rfl
theorem sl91 : slOk Tryz.prog 91 4 = true := by kernel_rfl
theorem zky : slOk Tryz.prog 101 55 = true := by kernel_rfl
theorem ziH : slOk Tryz.prog 114 120 = true := by kernel_rfl
theorem zwL : slOk Tryz.prog 125 130 = true := by kernel_rfl
theorem zwM : slOk Tryz.prog 134 133 = true := by kernel_rfl
theorem zrU : slOk Tryz.prog 183 59 = true := by kernel_rfl
theorem zo2 : slOk Tryz.prog 228 232 = true := by kernel_rfl
theorem ztr : yQ Tryz.prog 25 0 0 = true := by kernel_rfl
theorem zts : yQ Tryz.prog 25 1 1 = true := by kernel_rfl
theorem ztt : yQ Tryz.prog 32 0 0 = true := by kernel_rfl
theorem ztu : yQ Tryz.prog 32 1 1 = true := by kernel_rfl
theorem ztv : yQ Tryz.prog 32 2 2 = true := by kernel_rfl
theorem ztw : yQ Tryz.prog 32 3 3 = true := by kernel_rfl
theorem ztx : yQ Tryz.prog 35 0 0 = true := by kernel_rfl
theorem zty : yQ Tryz.prog 35 1 1 = true := by kernel_rfl
theorem ztz : yQ Tryz.prog 35 2 2 = true := by kernel_rfl
theorem ztA : yQ Tryz.prog 41 0 0 = true := by kernel_rfl
theorem ztB : yQ Tryz.prog 41 1 1 = true := by kernel_rfl
theorem ztC : yQ Tryz.prog 41 4 4 = true := by kernel_rfl
theorem ztD : yQ Tryz.prog 76 0 0 = true := by kernel_rfl
theorem ztE : yQ Tryz.prog 76 1 2 = true := by kernel_rfl
theorem ztF : yQ Tryz.prog 80 0 0 = true := by kernel_rfl
theorem ztG : yQ Tryz.prog 80 1 1 = true := by kernel_rfl
theorem ztH : yQ Tryz.prog 80 2 2 = true := by kernel_rfl
theorem ztI : yQ Tryz.prog 97 3 3 = true := by kernel_rfl
theorem zqn : yQ Tryz.prog 120 1 1 = true := by kernel_rfl
theorem zqo : yQ Tryz.prog 120 2 2 = true := by kernel_rfl
theorem zqp : yQ Tryz.prog 120 3 3 = true := by kernel_rfl
theorem zqq : yQ Tryz.prog 120 4 4 = true := by kernel_rfl
theorem zqr : yQ Tryz.prog 120 5 5 = true := by kernel_rfl
theorem zqs : yQ Tryz.prog 120 6 6 = true := by kernel_rfl
theorem zqt : yQ Tryz.prog 120 7 8 = true := by kernel_rfl
theorem zqu : yQ Tryz.prog 120 8 10 = true := by kernel_rfl
theorem zqv : yQ Tryz.prog 130 0 0 = true := by kernel_rfl
theorem zqw : yQ Tryz.prog 130 1 1 = true := by kernel_rfl
theorem zqx : yQ Tryz.prog 130 2 2 = true := by kernel_rfl
theorem zqy : yQ Tryz.prog 130 3 3 = true := by kernel_rfl
theorem zqz : yQ Tryz.prog 130 4 4 = true := by kernel_rfl
theorem zqA : yQ Tryz.prog 133 0 0 = true := by kernel_rfl
theorem zqB : yQ Tryz.prog 133 1 1 = true := by kernel_rfl
theorem zqC : yQ Tryz.prog 133 2 2 = true := by kernel_rfl
theorem zqD : yQ Tryz.prog 153 0 0 = true := by kernel_rfl
theorem zqE : yQ Tryz.prog 158 0 0 = true := by kernel_rfl
theorem zqF : yQ Tryz.prog 158 1 4 = true := by kernel_rfl
theorem zqG : yQ Tryz.prog 158 2 5 = true := by kernel_rfl
theorem zqH : yQ Tryz.prog 158 3 6 = true := by kernel_rfl
theorem zqI : yQ Tryz.prog 170 0 0 = true := by kernel_rfl
theorem zqJ : yQ Tryz.prog 170 1 1 = true := by kernel_rfl
theorem zqK : yQ Tryz.prog 170 2 2 = true := by kernel_rfl
theorem zqL : yQ Tryz.prog 170 3 3 = true := by kernel_rfl
theorem zqM : yQ Tryz.prog 232 0 0 = true := by kernel_rfl
theorem zqN : yQ Tryz.prog 232 1 1 = true := by kernel_rfl
theorem zqO : yQ Tryz.prog 232 2 2 = true := by kernel_rfl
theorem zqP : yQ Tryz.prog 232 3 3 = true := by kernel_rfl
theorem zqQ : yQ Tryz.prog 232 4 4 = true := by kernel_rfl
theorem zqR : yQ Tryz.prog 232 5 5 = true := by kernel_rfl
theorem zqS : yQ Tryz.prog 240 0 0 = true := by kernel_rfl
theorem zqT : yQ Tryz.prog 243 0 0 = true := by kernel_rfl
theorem zqU : yQ Tryz.prog 243 1 1 = true := by kernel_rfl
theorem zqV : yQ Tryz.prog 243 2 2 = true := by kernel_rfl
theorem zqW : yQ Tryz.prog 243 3 4 = true := by kernel_rfl
theorem zqX : yQ Tryz.prog 264 0 0 = true := by kernel_rfl
theorem zqY : yQ Tryz.prog 264 1 1 = true := by kernel_rfl
theorem zqZ : yQ Tryz.prog 264 2 2 = true := by kernel_rfl
theorem zq0 : yQ Tryz.prog 277 0 0 = true := by kernel_rfl
theorem zq1 : yQ Tryz.prog 277 1 1 = true := by kernel_rfl
theorem zq2 : yQ Tryz.prog 277 2 2 = true := by kernel_rfl
theorem pl25 : zY Tryz.prog 25 = some [(0, 1), (1, 1)] := by kernel_rfl
theorem ia25 : zw Tryz.prog 25 = true := by kernel_rfl
theorem pl32 : zY Tryz.prog 32 = some [(0, 1), (1, 1), (2, 1), (3, 1)] := by kernel_rfl
theorem ia32 : zw Tryz.prog 32 = true := by kernel_rfl
theorem pl35 : zY Tryz.prog 35 = some [(0, 1), (1, 1), (2, 1)] := by kernel_rfl
theorem ia35 : zw Tryz.prog 35 = true := by kernel_rfl
theorem pl41 : zY Tryz.prog 41 = some [(0, 1), (1, 1), (2, 1), (3, 1), (4, 1), (5, 1), (6, 1), (7, 1), (8, 4), (12, 1), (13, 1), (14, 1), (15, 2)] := by kernel_rfl
theorem ia41 : zw Tryz.prog 41 = true := by kernel_rfl
theorem pl76 : zY Tryz.prog 76 = some [(0, 2), (2, 1)] := by kernel_rfl
theorem ia76 : zw Tryz.prog 76 = true := by kernel_rfl
theorem pl80 : zY Tryz.prog 80 = some [(0, 1), (1, 1), (2, 1)] := by kernel_rfl
theorem ia80 : zw Tryz.prog 80 = true := by kernel_rfl
theorem pl97 : zY Tryz.prog 97 = some [(0, 1), (1, 1), (2, 1), (3, 1)] := by kernel_rfl
theorem ia97 : zw Tryz.prog 97 = true := by kernel_rfl
theorem zwN : zY Tryz.prog 120 = some [(0, 1), (1, 1), (2, 1), (3, 1), (4, 1), (5, 1), (6, 2), (8, 2), (10, 2)] := by kernel_rfl
theorem zwO : zw Tryz.prog 120 = true := by kernel_rfl
theorem zwP : zY Tryz.prog 130 = some [(0, 1), (1, 1), (2, 1), (3, 1), (4, 1)] := by kernel_rfl
theorem zwQ : zw Tryz.prog 130 = true := by kernel_rfl
theorem zwR : zY Tryz.prog 133 = some [(0, 1), (1, 1), (2, 1)] := by kernel_rfl
theorem zwS : zw Tryz.prog 133 = true := by kernel_rfl
theorem zwT : zY Tryz.prog 153 = some [(0, 1)] := by kernel_rfl
theorem zwU : zw Tryz.prog 153 = true := by kernel_rfl
theorem zwV : zY Tryz.prog 158 = some [(0, 4), (4, 1), (5, 1), (6, 1)] := by kernel_rfl
theorem zwW : zw Tryz.prog 158 = true := by kernel_rfl
theorem zwX : zY Tryz.prog 170 = some [(0, 1), (1, 1), (2, 1), (3, 1)] := by kernel_rfl
theorem zwY : zw Tryz.prog 170 = true := by kernel_rfl
theorem zwZ : zY Tryz.prog 232 = some [(0, 1), (1, 1), (2, 1), (3, 1), (4, 1), (5, 2)] := by kernel_rfl
theorem zw0 : zw Tryz.prog 232 = true := by kernel_rfl
theorem zw1 : zY Tryz.prog 240 = some [(0, 1)] := by kernel_rfl
theorem zw2 : zw Tryz.prog 240 = true := by kernel_rfl
theorem zw3 : zY Tryz.prog 243 = some [(0, 1), (1, 1), (2, 2), (4, 1)] := by kernel_rfl
theorem zw4 : zw Tryz.prog 243 = true := by kernel_rfl
theorem zw5 : zY Tryz.prog 264 = some [(0, 1), (1, 1), (2, 1)] := by kernel_rfl
theorem zw6 : zw Tryz.prog 264 = true := by kernel_rfl
theorem zw7 : zY Tryz.prog 277 = some [(0, 1), (1, 1), (2, 1)] := by kernel_rfl
theorem zw8 : zw Tryz.prog 277 = true := by kernel_rfl
theorem ar89 : zci Tryz.prog 89 8 4 = true := by kernel_rfl
theorem zo3 : zci Tryz.prog 121 4 3 = true := by kernel_rfl
theorem zw9 : zci Tryz.prog 171 9 170 = true := by kernel_rfl
theorem zxa : zci Tryz.prog 197 3 25 = true := by kernel_rfl
theorem zxb : zci Tryz.prog 265 5 264 = true := by kernel_rfl
theorem zxc : zci Tryz.prog 284 3 4 = true := by kernel_rfl
theorem zxd : zci Tryz.prog 285 5 284 = true := by kernel_rfl
theorem zxe : (eqOk Tryz.prog 5 25 && decide (5 <= 10000)) = true := by kernel_rfl
theorem fl25 : flat Tryz.prog 5 25 = [1, 1] := by kernel_rfl
theorem zxf : (eqOk Tryz.prog 5 35 && decide (5 <= 10000)) = true := by kernel_rfl
theorem fl35 : flat Tryz.prog 5 35 = [2, 2, 2] := by kernel_rfl
theorem zxg : (eqOk Tryz.prog 5 41 && decide (5 <= 10000)) = true := by kernel_rfl
theorem fl41 : flat Tryz.prog 5 41 = [1, 1, 1, 1, 2, 1, 2, 2, 1, 1, 1, 1, 2, 1, 1, 1, 1] := by kernel_rfl
theorem zxh : (eqOk Tryz.prog 5 76 && decide (5 <= 10000)) = true := by kernel_rfl
theorem fl76 : flat Tryz.prog 5 76 = [1, 1, 2] := by kernel_rfl
theorem eq25 : (eqOk Tryz.prog 5 25 && decide (5 <= 10000)) = true := zxe
theorem eg25 : Tryz.prog.eqGuardType Tryz.prog.depth 25 = false := by kernel_rfl
theorem eq35 : (eqOk Tryz.prog 5 35 && decide (5 <= 10000)) = true := zxf
theorem eg35 : Tryz.prog.eqGuardType Tryz.prog.depth 35 = false := by kernel_rfl
theorem eq41 : (eqOk Tryz.prog 5 41 && decide (5 <= 10000)) = true := zxg
theorem eg41 : Tryz.prog.eqGuardType Tryz.prog.depth 41 = false := by kernel_rfl
theorem eq76 : (eqOk Tryz.prog 5 76 && decide (5 <= 10000)) = true := zxh
theorem eg76 : Tryz.prog.eqGuardType Tryz.prog.depth 76 = false := by kernel_rfl
theorem mo : Tryz.prog.follows .mixedOrders = true := by kernel_rfl
end Go.Rse
