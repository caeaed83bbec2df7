/-
  zcf facts on the types, fields and functions of the translation: printed by program (genty.py).
-/
import Derived.Test.YtbilklnipfabpaaGreatDoorProg
import Derived.Test.YtbilklnipfabpaaGreatDoorELogA
import Derived.KernelRfl
namespace Go.Rse
open Go Go.Proofs
theorem ty3 : tyOk Tryz.prog 3 false 1 = true := by kernel_rfl
theorem ty4 : tyOk Tryz.prog 4 false 1 = true := by kernel_rfl
theorem ty22 : tyOk Tryz.prog 22 false 1 = true := by kernel_rfl
theorem ty24 : tyOk Tryz.prog 24 true 4 = true := by kernel_rfl
theorem ty26 : tyOk Tryz.prog 26 false 1 = true := by kernel_rfl
theorem ty29 : tyOk Tryz.prog 29 false 1 = true := by kernel_rfl
theorem ty33 : tyOk Tryz.prog 33 false 1 = true := by kernel_rfl
theorem ty35 : tyOk Tryz.prog 35 true 4 = true := by kernel_rfl
theorem ty40 : tyOk Tryz.prog 40 true 17 = true := by kernel_rfl
theorem ty46 : tyOk Tryz.prog 46 true 2 = true := by kernel_rfl
theorem ty56 : tyOk Tryz.prog 56 false 1 = true := by kernel_rfl
theorem ty89 : tyOk Tryz.prog 89 false 1 = true := by kernel_rfl
theorem ty95 : tyOk Tryz.prog 95 true 12 = true := by kernel_rfl
theorem ty97 : tyOk Tryz.prog 97 false 1 = true := by kernel_rfl
theorem zvd : tyOk Tryz.prog 104 true 2 = true := by kernel_rfl
theorem zmd : tyOk Tryz.prog 124 true 3 = true := by kernel_rfl
theorem zve : tyOk Tryz.prog 125 false 1 = true := by kernel_rfl
theorem zaj : tyOk Tryz.prog 138 false 1 = true := by kernel_rfl
theorem zvf : tyOk Tryz.prog 145 true 1 = true := by kernel_rfl
theorem zvg : tyOk Tryz.prog 158 true 1 = true := by kernel_rfl
theorem zoQ : tyOk Tryz.prog 162 true 7 = true := by kernel_rfl
theorem zvh : tyOk Tryz.prog 163 false 1 = true := by kernel_rfl
theorem zvi : tyOk Tryz.prog 167 false 1 = true := by kernel_rfl
theorem zrG : tyOk Tryz.prog 190 true 4 = true := by kernel_rfl
theorem zvj : tyOk Tryz.prog 194 false 1 = true := by kernel_rfl
theorem zvk : tyOk Tryz.prog 196 false 1 = true := by kernel_rfl
theorem zvl : tyOk Tryz.prog 215 true 3 = true := by kernel_rfl
theorem zvm : tyOk Tryz.prog 256 true 3 = true := by kernel_rfl
theorem zvn : tyOk Tryz.prog 257 false 1 = true := by kernel_rfl
theorem zvo : tyOk Tryz.prog 258 true 15 = true := by kernel_rfl
theorem zvp : tyOk Tryz.prog 269 true 3 = true := by kernel_rfl
theorem zrH : tyOk Tryz.prog 270 true 15 = true := by kernel_rfl
theorem ze3 : (Tryz.prog.info? 3).bind (·.zero) = some (.int .i64 0) := by kernel_rfl
theorem zc3 : zn Tryz.prog 3 [.int .i64 0] := ⟨_, ze3, rfl⟩
theorem ze4 : (Tryz.prog.info? 4).bind (·.zero) = some (.bool false) := by kernel_rfl
theorem zc4 : zn Tryz.prog 4 [.bool false] := ⟨_, ze4, rfl⟩
theorem ze22 : (Tryz.prog.info? 22).bind (·.zero) = some (.slice none 0 0) := by kernel_rfl
theorem zc22 : zn Tryz.prog 22 [.nils] := ⟨_, ze22, rfl⟩
theorem ze24 : (Tryz.prog.info? 24).bind (·.zero) = some (.agg #[.int .i64 0, .int .i64 0, .int .i64 0, .int .i64 0]) := by kernel_rfl
theorem zc24 : zn Tryz.prog 24 [.int .i64 0, .int .i64 0, .int .i64 0, .int .i64 0] := ⟨_, ze24, rfl⟩
theorem ze29 : (Tryz.prog.info? 29).bind (·.zero) = some (.int .i64 0) := by kernel_rfl
theorem zc29 : zn Tryz.prog 29 [.int .i64 0] := ⟨_, ze29, rfl⟩
theorem ze35 : (Tryz.prog.info? 35).bind (·.zero) = some (.agg #[.slice none 0 0, .slice none 0 0, .slice none 0 0, .slice none 0 0]) := by kernel_rfl
theorem zc35 : zn Tryz.prog 35 [.nils, .nils, .nils, .nils] := ⟨_, ze35, rfl⟩
theorem ze40 : (Tryz.prog.info? 40).bind (·.zero) = some (.agg #[.int .i64 0, .int .i64 0, .int .i64 0, .int .i64 0, .bool false, .int .i64 0, .bool false, .bool false, .int .i64 0, .int .i64 0, .int .i64 0, .int .i64 0, .bool false, .int .i64 0, .int .i64 0, .int .i64 0, .int .i64 0]) := by kernel_rfl
theorem zc40 : zn Tryz.prog 40 [.int .i64 0, .int .i64 0, .int .i64 0, .int .i64 0, .bool false, .int .i64 0, .bool false, .bool false, .int .i64 0, .int .i64 0, .int .i64 0, .int .i64 0, .bool false, .int .i64 0, .int .i64 0, .int .i64 0, .int .i64 0] := ⟨_, ze40, rfl⟩
theorem ze46 : (Tryz.prog.info? 46).bind (·.zero) = some (.agg #[.int .i64 0, .int .i64 0]) := by kernel_rfl
theorem zc46 : zn Tryz.prog 46 [.int .i64 0, .int .i64 0] := ⟨_, ze46, rfl⟩
theorem ze56 : (Tryz.prog.info? 56).bind (·.zero) = some (.nilFunc) := by kernel_rfl
theorem zc56 : zn Tryz.prog 56 [.nilf] := ⟨_, ze56, rfl⟩
theorem ze89 : (Tryz.prog.info? 89).bind (·.zero) = some (.slice none 0 0) := by kernel_rfl
theorem zc89 : zn Tryz.prog 89 [.nils] := ⟨_, ze89, rfl⟩
theorem ze95 : (Tryz.prog.info? 95).bind (·.zero) = some (.agg #[.int .i64 0, .int .i64 0, .bool false, .bool false, .bool false, .int .i64 0, .int .i64 0, .int .i64 0, .int .i64 0, .int .i64 0, .int .i64 0, .int .i64 0]) := by kernel_rfl
theorem zc95 : zn Tryz.prog 95 [.int .i64 0, .int .i64 0, .bool false, .bool false, .bool false, .int .i64 0, .int .i64 0, .int .i64 0, .int .i64 0, .int .i64 0, .int .i64 0, .int .i64 0] := ⟨_, ze95, rfl⟩
theorem ze97 : (Tryz.prog.info? 97).bind (·.zero) = some (.slice none 0 0) := by kernel_rfl
theorem zc97 : zn Tryz.prog 97 [.nils] := ⟨_, ze97, rfl⟩
theorem zrI : (Tryz.prog.info? 104).bind (·.zero) = some (.agg #[.int .i64 0, .int .i64 0]) := by kernel_rfl
theorem zvq : zn Tryz.prog 104 [.int .i64 0, .int .i64 0] := ⟨_, zrI, rfl⟩
theorem zrJ : (Tryz.prog.info? 124).bind (·.zero) = some (.agg #[.slice none 0 0, .slice none 0 0, .slice none 0 0]) := by kernel_rfl
theorem zvr : zn Tryz.prog 124 [.nils, .nils, .nils] := ⟨_, zrJ, rfl⟩
theorem zvs : (Tryz.prog.info? 138).bind (·.zero) = some (.slice none 0 0) := by kernel_rfl
theorem zvt : zn Tryz.prog 138 [.nils] := ⟨_, zvs, rfl⟩
theorem zvu : (Tryz.prog.info? 145).bind (·.zero) = some (.agg #[.int .i64 0]) := by kernel_rfl
theorem zvv : zn Tryz.prog 145 [.int .i64 0] := ⟨_, zvu, rfl⟩
theorem zvw : (Tryz.prog.info? 150).bind (·.zero) = some (.agg #[.int .i64 0, .int .i64 0, .int .i64 0, .int .i64 0, .slice none 0 0, .slice none 0 0, .slice none 0 0]) := by kernel_rfl
theorem zvx : zn Tryz.prog 150 [.int .i64 0, .int .i64 0, .int .i64 0, .int .i64 0, .nils, .nils, .nils] := ⟨_, zvw, rfl⟩
theorem zvy : (Tryz.prog.info? 158).bind (·.zero) = some (.agg #[.slice none 0 0]) := by kernel_rfl
theorem zvz : zn Tryz.prog 158 [.nils] := ⟨_, zvy, rfl⟩
theorem zoR : (Tryz.prog.info? 162).bind (·.zero) = some (.agg #[.int .i64 0, .int .i64 0, .int .i64 0, .int .i64 0, .bool false, .int .i64 0, .int .i64 0]) := by kernel_rfl
theorem zvA : zn Tryz.prog 162 [.int .i64 0, .int .i64 0, .int .i64 0, .int .i64 0, .bool false, .int .i64 0, .int .i64 0] := ⟨_, zoR, rfl⟩
theorem zvB : (Tryz.prog.info? 169).bind (·.zero) = some (.agg #[.slice none 0 0, .int .i64 0, .int .i64 0, .int .i64 0, .map none]) := by kernel_rfl
theorem zvC : (Tryz.prog.info? 190).bind (·.zero) = some (.agg #[.int .i64 0, .int .i64 0, .int .i64 0, .int .i64 0]) := by kernel_rfl
theorem zvD : zn Tryz.prog 190 [.int .i64 0, .int .i64 0, .int .i64 0, .int .i64 0] := ⟨_, zvC, rfl⟩
theorem zvE : (Tryz.prog.info? 207).bind (·.zero) = some (.agg #[.int .i64 0, .int .i64 0, .int .i64 0, .int .i64 0, .int .i64 0, .int .i64 0]) := by kernel_rfl
theorem zvF : zn Tryz.prog 207 [.int .i64 0, .int .i64 0, .int .i64 0, .int .i64 0, .int .i64 0, .int .i64 0] := ⟨_, zvE, rfl⟩
theorem zvG : (Tryz.prog.info? 215).bind (·.zero) = some (.agg #[.int .i64 0, .int .i64 0, .bool false]) := by kernel_rfl
theorem zvH : zn Tryz.prog 215 [.int .i64 0, .int .i64 0, .bool false] := ⟨_, zvG, rfl⟩
theorem zvI : (Tryz.prog.info? 256).bind (·.zero) = some (.agg #[.bool false, .bool false, .bool false]) := by kernel_rfl
theorem zvJ : zn Tryz.prog 256 [.bool false, .bool false, .bool false] := ⟨_, zvI, rfl⟩
theorem zvK : (Tryz.prog.info? 258).bind (·.zero) = some (.agg #[.bool false, .bool false, .bool false, .bool false, .bool false, .bool false, .bool false, .bool false, .bool false, .bool false, .bool false, .bool false, .bool false, .bool false, .bool false]) := by kernel_rfl
theorem zrK : zn Tryz.prog 258 [.bool false, .bool false, .bool false, .bool false, .bool false, .bool false, .bool false, .bool false, .bool false, .bool false, .bool false, .bool false, .bool false, .bool false, .bool false] := ⟨_, zvK, rfl⟩
theorem zvL : (Tryz.prog.info? 269).bind (·.zero) = some (.agg #[.nilFunc, .int .i64 0, .int .i64 0]) := by kernel_rfl
theorem zvM : (Tryz.prog.info? 270).bind (·.zero) = some (.agg #[.nilFunc, .int .i64 0, .int .i64 0, .nilFunc, .int .i64 0, .int .i64 0, .nilFunc, .int .i64 0, .int .i64 0, .nilFunc, .int .i64 0, .int .i64 0, .nilFunc, .int .i64 0, .int .i64 0]) := by kernel_rfl
theorem zvN : zn Tryz.prog 270 [.nilf, .int .i64 0, .int .i64 0, .nilf, .int .i64 0, .int .i64 0, .nilf, .int .i64 0, .int .i64 0, .nilf, .int .i64 0, .int .i64 0, .nilf, .int .i64 0, .int .i64 0] := ⟨_, zvM, rfl⟩
theorem ti3 : zad Tryz.prog 3 (.int .i64 0) 1 8 := z8 (by kernel_rfl) rfl
theorem ti4 : zad Tryz.prog 4 (.bool false) 1 1 := z8 (by kernel_rfl) rfl
theorem ti22 : zad Tryz.prog 22 (.slice none 0 0) 1 24 := z8 (by kernel_rfl) rfl
theorem ti35 : zad Tryz.prog 35 (.agg #[.slice none 0 0, .slice none 0 0, .slice none 0 0, .slice none 0 0]) 4 96 := z8 (by kernel_rfl) rfl
theorem ti40 : zad Tryz.prog 40 (.agg #[.int .i64 0, .int .i64 0, .int .i64 0, .int .i64 0, .bool false, .int .i64 0, .bool false, .bool false, .int .i64 0, .int .i64 0, .int .i64 0, .int .i64 0, .bool false, .int .i64 0, .int .i64 0, .int .i64 0, .int .i64 0]) 17 128 := z8 (by kernel_rfl) rfl
theorem ti46 : zad Tryz.prog 46 (.agg #[.int .i64 0, .int .i64 0]) 2 16 := z8 (by kernel_rfl) rfl
theorem ti95 : zad Tryz.prog 95 (.agg #[.int .i64 0, .int .i64 0, .bool false, .bool false, .bool false, .int .i64 0, .int .i64 0, .int .i64 0, .int .i64 0, .int .i64 0, .int .i64 0, .int .i64 0]) 12 80 := z8 (by kernel_rfl) rfl
theorem zvO : zad Tryz.prog 104 (.agg #[.int .i64 0, .int .i64 0]) 2 16 := z8 (by kernel_rfl) rfl
theorem zvP : zad Tryz.prog 124 (.agg #[.slice none 0 0, .slice none 0 0, .slice none 0 0]) 3 72 := z8 (by kernel_rfl) rfl
theorem zvQ : zad Tryz.prog 162 (.agg #[.int .i64 0, .int .i64 0, .int .i64 0, .int .i64 0, .bool false, .int .i64 0, .int .i64 0]) 7 56 := z8 (by kernel_rfl) rfl
theorem sl22 : slOk Tryz.prog 22 3 = true := by kernel_rfl
theorem sl26 : slOk Tryz.prog 26 40 = true := by kernel_rfl
theorem sl28 : slOk Tryz.prog 28 35 = true := by kernel_rfl
theorem sl33 : slOk Tryz.prog 33 46 = true := by kernel_rfl
theorem sl89 : slOk Tryz.prog 89 95 = true := by kernel_rfl
theorem sl97 : slOk Tryz.prog 97 162 = true := by kernel_rfl
theorem zvR : slOk Tryz.prog 102 104 = true := by kernel_rfl
theorem zvS : slOk Tryz.prog 125 124 = true := by kernel_rfl
theorem zaM : slOk Tryz.prog 138 4 = true := by kernel_rfl
theorem zrL : slOk Tryz.prog 196 22 = true := by kernel_rfl
theorem zto : y6 Tryz.prog 24 0 0 = true := by kernel_rfl
theorem ztp : y6 Tryz.prog 24 1 1 = true := by kernel_rfl
theorem ztq : y6 Tryz.prog 24 2 2 = true := by kernel_rfl
theorem ztr : y6 Tryz.prog 24 3 3 = true := by kernel_rfl
theorem zts : y6 Tryz.prog 35 0 0 = true := by kernel_rfl
theorem ztt : y6 Tryz.prog 35 1 1 = true := by kernel_rfl
theorem ztu : y6 Tryz.prog 35 2 2 = true := by kernel_rfl
theorem ztv : y6 Tryz.prog 35 3 3 = true := by kernel_rfl
theorem ztw : y6 Tryz.prog 40 0 0 = true := by kernel_rfl
theorem ztx : y6 Tryz.prog 40 1 1 = true := by kernel_rfl
theorem zty : y6 Tryz.prog 40 4 4 = true := by kernel_rfl
theorem ztz : y6 Tryz.prog 46 0 0 = true := by kernel_rfl
theorem ztA : y6 Tryz.prog 46 1 1 = true := by kernel_rfl
theorem ztB : y6 Tryz.prog 95 1 1 = true := by kernel_rfl
theorem ztC : y6 Tryz.prog 95 2 2 = true := by kernel_rfl
theorem ztD : y6 Tryz.prog 95 3 3 = true := by kernel_rfl
theorem ztE : y6 Tryz.prog 95 4 4 = true := by kernel_rfl
theorem ztF : y6 Tryz.prog 95 5 5 = true := by kernel_rfl
theorem ztG : y6 Tryz.prog 95 6 6 = true := by kernel_rfl
theorem ztH : y6 Tryz.prog 95 7 8 = true := by kernel_rfl
theorem ztI : y6 Tryz.prog 95 8 10 = true := by kernel_rfl
theorem zqx : y6 Tryz.prog 104 0 0 = true := by kernel_rfl
theorem zqy : y6 Tryz.prog 124 0 0 = true := by kernel_rfl
theorem zqz : y6 Tryz.prog 124 1 1 = true := by kernel_rfl
theorem zqA : y6 Tryz.prog 124 2 2 = true := by kernel_rfl
theorem zqB : y6 Tryz.prog 145 0 0 = true := by kernel_rfl
theorem zqC : y6 Tryz.prog 150 0 0 = true := by kernel_rfl
theorem zqD : y6 Tryz.prog 150 1 4 = true := by kernel_rfl
theorem zqE : y6 Tryz.prog 150 2 5 = true := by kernel_rfl
theorem zqF : y6 Tryz.prog 150 3 6 = true := by kernel_rfl
theorem zqG : y6 Tryz.prog 158 0 0 = true := by kernel_rfl
theorem zqH : y6 Tryz.prog 162 0 0 = true := by kernel_rfl
theorem zqI : y6 Tryz.prog 162 1 1 = true := by kernel_rfl
theorem zqJ : y6 Tryz.prog 162 2 2 = true := by kernel_rfl
theorem zqK : y6 Tryz.prog 162 3 3 = true := by kernel_rfl
theorem zqL : y6 Tryz.prog 162 4 4 = true := by kernel_rfl
theorem zqM : y6 Tryz.prog 162 5 5 = true := by kernel_rfl
theorem zqN : y6 Tryz.prog 169 0 0 = true := by kernel_rfl
theorem zqO : y6 Tryz.prog 169 1 1 = true := by kernel_rfl
theorem zqP : y6 Tryz.prog 169 2 2 = true := by kernel_rfl
theorem zqQ : y6 Tryz.prog 169 3 4 = true := by kernel_rfl
theorem zqR : y6 Tryz.prog 215 0 0 = true := by kernel_rfl
theorem zqS : y6 Tryz.prog 215 1 1 = true := by kernel_rfl
theorem zqT : y6 Tryz.prog 215 2 2 = true := by kernel_rfl
theorem zqU : y6 Tryz.prog 269 0 0 = true := by kernel_rfl
theorem zqV : y6 Tryz.prog 269 1 1 = true := by kernel_rfl
theorem zqW : y6 Tryz.prog 269 2 2 = true := by kernel_rfl
theorem pl24 : zaq Tryz.prog 24 = some [(0, 1), (1, 1), (2, 1), (3, 1)] := by kernel_rfl
theorem ia24 : zJ Tryz.prog 24 = true := by kernel_rfl
theorem pl35 : zaq Tryz.prog 35 = some [(0, 1), (1, 1), (2, 1), (3, 1)] := by kernel_rfl
theorem ia35 : zJ Tryz.prog 35 = true := by kernel_rfl
theorem pl40 : zaq Tryz.prog 40 = some [(0, 1), (1, 1), (2, 1), (3, 1), (4, 1), (5, 1), (6, 1), (7, 1), (8, 4), (12, 1), (13, 1), (14, 1), (15, 2)] := by kernel_rfl
theorem ia40 : zJ Tryz.prog 40 = true := by kernel_rfl
theorem pl46 : zaq Tryz.prog 46 = some [(0, 1), (1, 1)] := by kernel_rfl
theorem ia46 : zJ Tryz.prog 46 = true := by kernel_rfl
theorem pl95 : zaq Tryz.prog 95 = some [(0, 1), (1, 1), (2, 1), (3, 1), (4, 1), (5, 1), (6, 2), (8, 2), (10, 2)] := by kernel_rfl
theorem ia95 : zJ Tryz.prog 95 = true := by kernel_rfl
theorem zvT : zaq Tryz.prog 104 = some [(0, 2)] := by kernel_rfl
theorem zvU : zJ Tryz.prog 104 = true := by kernel_rfl
theorem zvV : zaq Tryz.prog 124 = some [(0, 1), (1, 1), (2, 1)] := by kernel_rfl
theorem zvW : zJ Tryz.prog 124 = true := by kernel_rfl
theorem zvX : zaq Tryz.prog 145 = some [(0, 1)] := by kernel_rfl
theorem zvY : zJ Tryz.prog 145 = true := by kernel_rfl
theorem zvZ : zaq Tryz.prog 150 = some [(0, 4), (4, 1), (5, 1), (6, 1)] := by kernel_rfl
theorem zv0 : zJ Tryz.prog 150 = true := by kernel_rfl
theorem zv1 : zaq Tryz.prog 158 = some [(0, 1)] := by kernel_rfl
theorem zv2 : zJ Tryz.prog 158 = true := by kernel_rfl
theorem zv3 : zaq Tryz.prog 162 = some [(0, 1), (1, 1), (2, 1), (3, 1), (4, 1), (5, 2)] := by kernel_rfl
theorem zv4 : zJ Tryz.prog 162 = true := by kernel_rfl
theorem zv5 : zaq Tryz.prog 169 = some [(0, 1), (1, 1), (2, 2), (4, 1)] := by kernel_rfl
theorem zv6 : zJ Tryz.prog 169 = true := by kernel_rfl
theorem zv7 : zaq Tryz.prog 215 = some [(0, 1), (1, 1), (2, 1)] := by kernel_rfl
theorem zv8 : zJ Tryz.prog 215 = true := by kernel_rfl
theorem zv9 : zaq Tryz.prog 269 = some [(0, 1), (1, 1), (2, 1)] := by kernel_rfl
theorem zwa : zJ Tryz.prog 269 = true := by kernel_rfl
theorem zoS : zcP Tryz.prog 190 4 3 = true := by kernel_rfl
theorem zwb : zcP Tryz.prog 207 3 46 = true := by kernel_rfl
theorem zwc : zcP Tryz.prog 256 3 4 = true := by kernel_rfl
theorem zwd : zcP Tryz.prog 258 5 256 = true := by kernel_rfl
theorem zwe : zcP Tryz.prog 270 5 269 = true := by kernel_rfl
theorem zwf : (eqOk Tryz.prog 5 46 && decide (5 <= 10000)) = true := by kernel_rfl
theorem fl46 : flat Tryz.prog 5 46 = [1, 1] := by kernel_rfl
theorem eq46 : (eqOk Tryz.prog 5 46 && decide (5 <= 10000)) = true := zwf
theorem eg46 : Tryz.prog.eqGuardType Tryz.prog.depth 46 = false := by kernel_rfl
theorem mo : Tryz.prog.follows .mixedOrders = true := by kernel_rfl
end Go.Rse
