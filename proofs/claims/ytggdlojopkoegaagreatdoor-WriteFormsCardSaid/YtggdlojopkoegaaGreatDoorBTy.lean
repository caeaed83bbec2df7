/-
  zcf facts on the types, fields and functions of the translation: printed by program (genty.py).
-/
import Derived.Test.YtggdlojopkoegaaGreatDoorProg
import Derived.Test.YtggdlojopkoegaaGreatDoorBLogA
import Derived.KernelRfl
namespace Go.Rse
open Go Go.Proofs
theorem ty3 : tyOk Tryz.prog 3 false 1 = true := by kernel_rfl
theorem ty4 : tyOk Tryz.prog 4 false 1 = true := by kernel_rfl
theorem ty23 : tyOk Tryz.prog 23 true 4 = true := by kernel_rfl
theorem ty24 : tyOk Tryz.prog 24 false 1 = true := by kernel_rfl
theorem ty28 : tyOk Tryz.prog 28 false 1 = true := by kernel_rfl
theorem ty32 : tyOk Tryz.prog 32 true 3 = true := by kernel_rfl
theorem ty36 : tyOk Tryz.prog 36 false 1 = true := by kernel_rfl
theorem ty40 : tyOk Tryz.prog 40 true 2 = true := by kernel_rfl
theorem ty42 : tyOk Tryz.prog 42 true 3 = true := by kernel_rfl
theorem ty44 : tyOk Tryz.prog 44 false 1 = true := by kernel_rfl
theorem ty61 : tyOk Tryz.prog 61 false 1 = true := by kernel_rfl
theorem ty64 : tyOk Tryz.prog 64 false 1 = true := by kernel_rfl
theorem ty76 : tyOk Tryz.prog 76 true 17 = true := by kernel_rfl
theorem zlm : tyOk Tryz.prog 110 true 4 = true := by kernel_rfl
theorem zp8 : tyOk Tryz.prog 127 true 5 = true := by kernel_rfl
theorem zaf : tyOk Tryz.prog 130 false 1 = true := by kernel_rfl
theorem zp9 : tyOk Tryz.prog 169 true 4 = true := by kernel_rfl
theorem zqa : tyOk Tryz.prog 174 true 3 = true := by kernel_rfl
theorem zti : tyOk Tryz.prog 194 false 1 = true := by kernel_rfl
theorem zjG : tyOk Tryz.prog 200 true 12 = true := by kernel_rfl
theorem ztj : tyOk Tryz.prog 207 false 1 = true := by kernel_rfl
theorem ztk : tyOk Tryz.prog 224 false 1 = true := by kernel_rfl
theorem ztl : tyOk Tryz.prog 226 true 4 = true := by kernel_rfl
theorem zqb : tyOk Tryz.prog 227 true 36 = true := by kernel_rfl
theorem ztm : tyOk Tryz.prog 244 true 1 = true := by kernel_rfl
theorem ztn : tyOk Tryz.prog 308 false 1 = true := by kernel_rfl
theorem zto : tyOk Tryz.prog 320 false 1 = true := by kernel_rfl
theorem znz : tyOk Tryz.prog 326 true 7 = true := by kernel_rfl
theorem ztp : tyOk Tryz.prog 333 false 1 = true := by kernel_rfl
theorem ztq : tyOk Tryz.prog 336 false 1 = true := by kernel_rfl
theorem ztr : tyOk Tryz.prog 341 true 1 = true := by kernel_rfl
theorem zts : tyOk Tryz.prog 342 false 1 = true := by kernel_rfl
theorem ztt : tyOk Tryz.prog 371 false 1 = true := by kernel_rfl
theorem ztu : tyOk Tryz.prog 373 true 3 = true := by kernel_rfl
theorem zqc : tyOk Tryz.prog 374 true 15 = true := by kernel_rfl
theorem ztv : tyOk Tryz.prog 385 true 3 = true := by kernel_rfl
theorem ztw : tyOk Tryz.prog 391 true 3 = true := by kernel_rfl
theorem ztx : tyOk Tryz.prog 392 true 15 = true := by kernel_rfl
theorem ze3 : (Tryz.prog.info? 3).bind (·.zero) = some (.int .i64 0) := by kernel_rfl
theorem zc3 : zh Tryz.prog 3 [.int .i64 0] := ⟨_, ze3, rfl⟩
theorem ze4 : (Tryz.prog.info? 4).bind (·.zero) = some (.bool false) := by kernel_rfl
theorem zc4 : zh Tryz.prog 4 [.bool false] := ⟨_, ze4, rfl⟩
theorem ze23 : (Tryz.prog.info? 23).bind (·.zero) = some (.agg #[.int .i64 0, .int .i64 0, .int .i64 0, .int .i64 0]) := by kernel_rfl
theorem zc23 : zh Tryz.prog 23 [.int .i64 0, .int .i64 0, .int .i64 0, .int .i64 0] := ⟨_, ze23, rfl⟩
theorem ze24 : (Tryz.prog.info? 24).bind (·.zero) = some (.slice none 0 0) := by kernel_rfl
theorem ze28 : (Tryz.prog.info? 28).bind (·.zero) = some (.int .i64 0) := by kernel_rfl
theorem zc28 : zh Tryz.prog 28 [.int .i64 0] := ⟨_, ze28, rfl⟩
theorem ze32 : (Tryz.prog.info? 32).bind (·.zero) = some (.agg #[.bool false, .bool false, .bool false]) := by kernel_rfl
theorem zc32 : zh Tryz.prog 32 [.bool false, .bool false, .bool false] := ⟨_, ze32, rfl⟩
theorem ze36 : (Tryz.prog.info? 36).bind (·.zero) = some (.slice none 0 0) := by kernel_rfl
theorem ze40 : (Tryz.prog.info? 40).bind (·.zero) = some (.agg #[.int .i64 0, .int .i64 0]) := by kernel_rfl
theorem zc40 : zh Tryz.prog 40 [.int .i64 0, .int .i64 0] := ⟨_, ze40, rfl⟩
theorem ze42 : (Tryz.prog.info? 42).bind (·.zero) = some (.agg #[.int .i64 0, .int .i64 0, .bool false]) := by kernel_rfl
theorem zc42 : zh Tryz.prog 42 [.int .i64 0, .int .i64 0, .bool false] := ⟨_, ze42, rfl⟩
theorem ze44 : (Tryz.prog.info? 44).bind (·.zero) = some (.slice none 0 0) := by kernel_rfl
theorem ze61 : (Tryz.prog.info? 61).bind (·.zero) = some (.slice none 0 0) := by kernel_rfl
theorem zc61 : zh Tryz.prog 61 [.nils] := ⟨_, ze61, rfl⟩
theorem ze64 : (Tryz.prog.info? 64).bind (·.zero) = some (.slice none 0 0) := by kernel_rfl
theorem zc64 : zh Tryz.prog 64 [.nils] := ⟨_, ze64, rfl⟩
theorem ze76 : (Tryz.prog.info? 76).bind (·.zero) = some (.agg #[.int .i64 0, .int .i64 0, .int .i64 0, .int .i64 0, .bool false, .int .i64 0, .bool false, .bool false, .int .i64 0, .int .i64 0, .int .i64 0, .int .i64 0, .bool false, .int .i64 0, .int .i64 0, .int .i64 0, .int .i64 0]) := by kernel_rfl
theorem zc76 : zh Tryz.prog 76 [.int .i64 0, .int .i64 0, .int .i64 0, .int .i64 0, .bool false, .int .i64 0, .bool false, .bool false, .int .i64 0, .int .i64 0, .int .i64 0, .int .i64 0, .bool false, .int .i64 0, .int .i64 0, .int .i64 0, .int .i64 0] := ⟨_, ze76, rfl⟩
theorem zty : (Tryz.prog.info? 110).bind (·.zero) = some (.agg #[.slice none 0 0, .slice none 0 0, .slice none 0 0, .slice none 0 0]) := by kernel_rfl
theorem ztz : zh Tryz.prog 110 [.nils, .nils, .nils, .nils] := ⟨_, zty, rfl⟩
theorem zqd : (Tryz.prog.info? 127).bind (·.zero) = some (.agg #[.int .i64 0, .bool false, .bool false, .bool false, .int .i64 0]) := by kernel_rfl
theorem ztA : zh Tryz.prog 127 [.int .i64 0, .bool false, .bool false, .bool false, .int .i64 0] := ⟨_, zqd, rfl⟩
theorem ztB : (Tryz.prog.info? 130).bind (·.zero) = some (.slice none 0 0) := by kernel_rfl
theorem ztC : zh Tryz.prog 130 [.nils] := ⟨_, ztB, rfl⟩
theorem ztD : (Tryz.prog.info? 169).bind (·.zero) = some (.agg #[.int .i64 0, .int .i64 0, .int .i64 0, .int .i64 0]) := by kernel_rfl
theorem ztE : zh Tryz.prog 169 [.int .i64 0, .int .i64 0, .int .i64 0, .int .i64 0] := ⟨_, ztD, rfl⟩
theorem zqe : (Tryz.prog.info? 174).bind (·.zero) = some (.agg #[.int .i64 0, .bool false, .bool false]) := by kernel_rfl
theorem ztF : zh Tryz.prog 174 [.int .i64 0, .bool false, .bool false] := ⟨_, zqe, rfl⟩
theorem ztG : (Tryz.prog.info? 194).bind (·.zero) = some (.slice none 0 0) := by kernel_rfl
theorem ztH : zh Tryz.prog 194 [.nils] := ⟨_, ztG, rfl⟩
theorem zqf : (Tryz.prog.info? 200).bind (·.zero) = some (.agg #[.int .i64 0, .int .i64 0, .bool false, .bool false, .bool false, .int .i64 0, .int .i64 0, .int .i64 0, .int .i64 0, .int .i64 0, .int .i64 0, .int .i64 0]) := by kernel_rfl
theorem zh0 : zh Tryz.prog 200 [.int .i64 0, .int .i64 0, .bool false, .bool false, .bool false, .int .i64 0, .int .i64 0, .int .i64 0, .int .i64 0, .int .i64 0, .int .i64 0, .int .i64 0] := ⟨_, zqf, rfl⟩
theorem ztI : (Tryz.prog.info? 226).bind (·.zero) = some (.agg #[.bool false, .bool false, .bool false, .nilFunc]) := by kernel_rfl
theorem ztJ : zh Tryz.prog 226 [.bool false, .bool false, .bool false, .nilf] := ⟨_, ztI, rfl⟩
theorem ztK : (Tryz.prog.info? 227).bind (·.zero) = some (.agg #[.bool false, .bool false, .bool false, .nilFunc, .bool false, .bool false, .bool false, .nilFunc, .bool false, .bool false, .bool false, .nilFunc, .bool false, .bool false, .bool false, .nilFunc, .bool false, .bool false, .bool false, .nilFunc, .bool false, .bool false, .bool false, .nilFunc, .bool false, .bool false, .bool false, .nilFunc, .bool false, .bool false, .bool false, .nilFunc, .bool false, .bool false, .bool false, .nilFunc]) := by kernel_rfl
theorem ztL : zh Tryz.prog 227 [.bool false, .bool false, .bool false, .nilf, .bool false, .bool false, .bool false, .nilf, .bool false, .bool false, .bool false, .nilf, .bool false, .bool false, .bool false, .nilf, .bool false, .bool false, .bool false, .nilf, .bool false, .bool false, .bool false, .nilf, .bool false, .bool false, .bool false, .nilf, .bool false, .bool false, .bool false, .nilf, .bool false, .bool false, .bool false, .nilf] := ⟨_, ztK, rfl⟩
theorem ztM : (Tryz.prog.info? 244).bind (·.zero) = some (.agg #[.int .i64 0]) := by kernel_rfl
theorem ztN : zh Tryz.prog 244 [.int .i64 0] := ⟨_, ztM, rfl⟩
theorem ztO : (Tryz.prog.info? 249).bind (·.zero) = some (.agg #[.int .i64 0, .int .i64 0, .int .i64 0, .int .i64 0, .slice none 0 0, .slice none 0 0, .slice none 0 0]) := by kernel_rfl
theorem ztP : zh Tryz.prog 249 [.int .i64 0, .int .i64 0, .int .i64 0, .int .i64 0, .nils, .nils, .nils] := ⟨_, ztO, rfl⟩
theorem ztQ : (Tryz.prog.info? 291).bind (·.zero) = some (.agg #[.int .i64 0, .int .i64 0, .int .i64 0, .int .i64 0, .int .i64 0, .int .i64 0]) := by kernel_rfl
theorem ztR : zh Tryz.prog 291 [.int .i64 0, .int .i64 0, .int .i64 0, .int .i64 0, .int .i64 0, .int .i64 0] := ⟨_, ztQ, rfl⟩
theorem ztS : (Tryz.prog.info? 308).bind (·.zero) = some (.nilFunc) := by kernel_rfl
theorem ztT : zh Tryz.prog 308 [.nilf] := ⟨_, ztS, rfl⟩
theorem ztU : (Tryz.prog.info? 320).bind (·.zero) = some (.slice none 0 0) := by kernel_rfl
theorem ztV : zh Tryz.prog 320 [.nils] := ⟨_, ztU, rfl⟩
theorem znA : (Tryz.prog.info? 326).bind (·.zero) = some (.agg #[.int .i64 0, .int .i64 0, .int .i64 0, .int .i64 0, .bool false, .int .i64 0, .int .i64 0]) := by kernel_rfl
theorem ztW : zh Tryz.prog 326 [.int .i64 0, .int .i64 0, .int .i64 0, .int .i64 0, .bool false, .int .i64 0, .int .i64 0] := ⟨_, znA, rfl⟩
theorem ztX : (Tryz.prog.info? 333).bind (·.zero) = some (.nilFunc) := by kernel_rfl
theorem ztY : zh Tryz.prog 333 [.nilf] := ⟨_, ztX, rfl⟩
theorem ztZ : (Tryz.prog.info? 341).bind (·.zero) = some (.agg #[.slice none 0 0]) := by kernel_rfl
theorem zt0 : zh Tryz.prog 341 [.nils] := ⟨_, ztZ, rfl⟩
theorem zt1 : (Tryz.prog.info? 344).bind (·.zero) = some (.agg #[.slice none 0 0, .int .i64 0, .int .i64 0, .int .i64 0, .map none]) := by kernel_rfl
theorem zt2 : (Tryz.prog.info? 373).bind (·.zero) = some (.agg #[.nilFunc, .int .i64 0, .int .i64 0]) := by kernel_rfl
theorem zt3 : (Tryz.prog.info? 374).bind (·.zero) = some (.agg #[.nilFunc, .int .i64 0, .int .i64 0, .nilFunc, .int .i64 0, .int .i64 0, .nilFunc, .int .i64 0, .int .i64 0, .nilFunc, .int .i64 0, .int .i64 0, .nilFunc, .int .i64 0, .int .i64 0]) := by kernel_rfl
theorem zt4 : zh Tryz.prog 374 [.nilf, .int .i64 0, .int .i64 0, .nilf, .int .i64 0, .int .i64 0, .nilf, .int .i64 0, .int .i64 0, .nilf, .int .i64 0, .int .i64 0, .nilf, .int .i64 0, .int .i64 0] := ⟨_, zt3, rfl⟩
theorem zt5 : (Tryz.prog.info? 385).bind (·.zero) = some (.agg #[.int .i64 0, .int .i64 0, .bool false]) := by kernel_rfl
theorem zt6 : zh Tryz.prog 385 [.int .i64 0, .int .i64 0, .bool false] := ⟨_, zt5, rfl⟩
theorem zt7 : (Tryz.prog.info? 391).bind (·.zero) = some (.agg #[.bool false, .bool false, .bool false]) := by kernel_rfl
theorem zt8 : zh Tryz.prog 391 [.bool false, .bool false, .bool false] := ⟨_, zt7, rfl⟩
theorem zt9 : (Tryz.prog.info? 392).bind (·.zero) = some (.agg #[.bool false, .bool false, .bool false, .bool false, .bool false, .bool false, .bool false, .bool false, .bool false, .bool false, .bool false, .bool false, .bool false, .bool false, .bool false]) := by kernel_rfl
theorem zqg : zh Tryz.prog 392 [.bool false, .bool false, .bool false, .bool false, .bool false, .bool false, .bool false, .bool false, .bool false, .bool false, .bool false, .bool false, .bool false, .bool false, .bool false] := ⟨_, zt9, rfl⟩
theorem ti3 : zV Tryz.prog 3 (.int .i64 0) 1 8 := zG (by kernel_rfl) rfl
theorem ti4 : zV Tryz.prog 4 (.bool false) 1 1 := zG (by kernel_rfl) rfl
theorem ti24 : zV Tryz.prog 24 (.slice none 0 0) 1 24 := zG (by kernel_rfl) rfl
theorem ti36 : zV Tryz.prog 36 (.slice none 0 0) 1 24 := zG (by kernel_rfl) rfl
theorem ti40 : zV Tryz.prog 40 (.agg #[.int .i64 0, .int .i64 0]) 2 16 := zG (by kernel_rfl) rfl
theorem ti42 : zV Tryz.prog 42 (.agg #[.int .i64 0, .int .i64 0, .bool false]) 3 24 := zG (by kernel_rfl) rfl
theorem ti44 : zV Tryz.prog 44 (.slice none 0 0) 1 24 := zG (by kernel_rfl) rfl
theorem ti61 : zV Tryz.prog 61 (.slice none 0 0) 1 24 := zG (by kernel_rfl) rfl
theorem ti76 : zV Tryz.prog 76 (.agg #[.int .i64 0, .int .i64 0, .int .i64 0, .int .i64 0, .bool false, .int .i64 0, .bool false, .bool false, .int .i64 0, .int .i64 0, .int .i64 0, .int .i64 0, .bool false, .int .i64 0, .int .i64 0, .int .i64 0, .int .i64 0]) 17 128 := zG (by kernel_rfl) rfl
theorem zua : zV Tryz.prog 127 (.agg #[.int .i64 0, .bool false, .bool false, .bool false, .int .i64 0]) 5 24 := zG (by kernel_rfl) rfl
theorem zub : zV Tryz.prog 174 (.agg #[.int .i64 0, .bool false, .bool false]) 3 16 := zG (by kernel_rfl) rfl
theorem zuc : zV Tryz.prog 200 (.agg #[.int .i64 0, .int .i64 0, .bool false, .bool false, .bool false, .int .i64 0, .int .i64 0, .int .i64 0, .int .i64 0, .int .i64 0, .int .i64 0, .int .i64 0]) 12 80 := zG (by kernel_rfl) rfl
theorem zud : zV Tryz.prog 326 (.agg #[.int .i64 0, .int .i64 0, .int .i64 0, .int .i64 0, .bool false, .int .i64 0, .int .i64 0]) 7 56 := zG (by kernel_rfl) rfl
theorem sl24 : slOk Tryz.prog 24 42 = true := by kernel_rfl
theorem sl36 : slOk Tryz.prog 36 44 = true := by kernel_rfl
theorem sl44 : slOk Tryz.prog 44 76 = true := by kernel_rfl
theorem sl61 : slOk Tryz.prog 61 3 = true := by kernel_rfl
theorem sl64 : slOk Tryz.prog 64 40 = true := by kernel_rfl
theorem sl78 : slOk Tryz.prog 78 24 = true := by kernel_rfl
theorem zue : slOk Tryz.prog 123 127 = true := by kernel_rfl
theorem zaP : slOk Tryz.prog 130 4 = true := by kernel_rfl
theorem znB : slOk Tryz.prog 135 36 = true := by kernel_rfl
theorem zuf : slOk Tryz.prog 175 174 = true := by kernel_rfl
theorem zh1 : slOk Tryz.prog 194 200 = true := by kernel_rfl
theorem zqh : slOk Tryz.prog 282 61 = true := by kernel_rfl
theorem znC : slOk Tryz.prog 320 326 = true := by kernel_rfl
theorem zrs : yW Tryz.prog 23 0 0 = true := by kernel_rfl
theorem zrt : yW Tryz.prog 23 1 1 = true := by kernel_rfl
theorem zru : yW Tryz.prog 23 2 2 = true := by kernel_rfl
theorem zrv : yW Tryz.prog 23 3 3 = true := by kernel_rfl
theorem zrw : yW Tryz.prog 32 0 0 = true := by kernel_rfl
theorem zrx : yW Tryz.prog 32 1 1 = true := by kernel_rfl
theorem zry : yW Tryz.prog 32 2 2 = true := by kernel_rfl
theorem zrz : yW Tryz.prog 40 0 0 = true := by kernel_rfl
theorem zrA : yW Tryz.prog 40 1 1 = true := by kernel_rfl
theorem zrB : yW Tryz.prog 42 0 0 = true := by kernel_rfl
theorem zrC : yW Tryz.prog 42 1 2 = true := by kernel_rfl
theorem zrD : yW Tryz.prog 76 0 0 = true := by kernel_rfl
theorem zrE : yW Tryz.prog 76 1 1 = true := by kernel_rfl
theorem zrF : yW Tryz.prog 76 4 4 = true := by kernel_rfl
theorem zoQ : yW Tryz.prog 110 3 3 = true := by kernel_rfl
theorem zoR : yW Tryz.prog 127 0 0 = true := by kernel_rfl
theorem zoS : yW Tryz.prog 127 1 1 = true := by kernel_rfl
theorem zoT : yW Tryz.prog 127 2 2 = true := by kernel_rfl
theorem zoU : yW Tryz.prog 127 3 3 = true := by kernel_rfl
theorem zoV : yW Tryz.prog 127 4 4 = true := by kernel_rfl
theorem zoW : yW Tryz.prog 174 0 0 = true := by kernel_rfl
theorem zoX : yW Tryz.prog 174 1 1 = true := by kernel_rfl
theorem zoY : yW Tryz.prog 174 2 2 = true := by kernel_rfl
theorem zoZ : yW Tryz.prog 200 1 1 = true := by kernel_rfl
theorem zo0 : yW Tryz.prog 200 2 2 = true := by kernel_rfl
theorem zo1 : yW Tryz.prog 200 3 3 = true := by kernel_rfl
theorem zo2 : yW Tryz.prog 200 4 4 = true := by kernel_rfl
theorem zo3 : yW Tryz.prog 200 5 5 = true := by kernel_rfl
theorem zo4 : yW Tryz.prog 200 6 6 = true := by kernel_rfl
theorem zo5 : yW Tryz.prog 200 7 8 = true := by kernel_rfl
theorem zo6 : yW Tryz.prog 200 8 10 = true := by kernel_rfl
theorem zo7 : yW Tryz.prog 226 0 0 = true := by kernel_rfl
theorem zo8 : yW Tryz.prog 226 1 1 = true := by kernel_rfl
theorem zo9 : yW Tryz.prog 226 2 2 = true := by kernel_rfl
theorem zpa : yW Tryz.prog 226 3 3 = true := by kernel_rfl
theorem zpb : yW Tryz.prog 244 0 0 = true := by kernel_rfl
theorem zpc : yW Tryz.prog 249 0 0 = true := by kernel_rfl
theorem zpd : yW Tryz.prog 249 1 4 = true := by kernel_rfl
theorem zpe : yW Tryz.prog 249 2 5 = true := by kernel_rfl
theorem zpf : yW Tryz.prog 249 3 6 = true := by kernel_rfl
theorem zpg : yW Tryz.prog 326 0 0 = true := by kernel_rfl
theorem zph : yW Tryz.prog 326 1 1 = true := by kernel_rfl
theorem zpi : yW Tryz.prog 326 2 2 = true := by kernel_rfl
theorem zpj : yW Tryz.prog 326 3 3 = true := by kernel_rfl
theorem zpk : yW Tryz.prog 326 4 4 = true := by kernel_rfl
theorem zpl : yW Tryz.prog 326 5 5 = true := by kernel_rfl
theorem zpm : yW Tryz.prog 341 0 0 = true := by kernel_rfl
theorem zpn : yW Tryz.prog 344 0 0 = true := by kernel_rfl
theorem zpo : yW Tryz.prog 344 1 1 = true := by kernel_rfl
theorem zpp : yW Tryz.prog 344 2 2 = true := by kernel_rfl
theorem zpq : yW Tryz.prog 344 3 4 = true := by kernel_rfl
theorem zpr : yW Tryz.prog 373 0 0 = true := by kernel_rfl
theorem zps : yW Tryz.prog 373 1 1 = true := by kernel_rfl
theorem zpt : yW Tryz.prog 373 2 2 = true := by kernel_rfl
theorem zpu : yW Tryz.prog 385 0 0 = true := by kernel_rfl
theorem zpv : yW Tryz.prog 385 1 1 = true := by kernel_rfl
theorem zpw : yW Tryz.prog 385 2 2 = true := by kernel_rfl
theorem pl23 : zZ Tryz.prog 23 = some [(0, 1), (1, 1), (2, 1), (3, 1)] := by kernel_rfl
theorem ia23 : zz Tryz.prog 23 = true := by kernel_rfl
theorem pl32 : zZ Tryz.prog 32 = some [(0, 1), (1, 1), (2, 1)] := by kernel_rfl
theorem ia32 : zz Tryz.prog 32 = true := by kernel_rfl
theorem pl40 : zZ Tryz.prog 40 = some [(0, 1), (1, 1)] := by kernel_rfl
theorem ia40 : zz Tryz.prog 40 = true := by kernel_rfl
theorem pl42 : zZ Tryz.prog 42 = some [(0, 2), (2, 1)] := by kernel_rfl
theorem ia42 : zz Tryz.prog 42 = true := by kernel_rfl
theorem pl76 : zZ Tryz.prog 76 = some [(0, 1), (1, 1), (2, 1), (3, 1), (4, 1), (5, 1), (6, 1), (7, 1), (8, 4), (12, 1), (13, 1), (14, 1), (15, 2)] := by kernel_rfl
theorem ia76 : zz Tryz.prog 76 = true := by kernel_rfl
theorem zug : zZ Tryz.prog 110 = some [(0, 1), (1, 1), (2, 1), (3, 1)] := by kernel_rfl
theorem zuh : zz Tryz.prog 110 = true := by kernel_rfl
theorem zui : zZ Tryz.prog 127 = some [(0, 1), (1, 1), (2, 1), (3, 1), (4, 1)] := by kernel_rfl
theorem zuj : zz Tryz.prog 127 = true := by kernel_rfl
theorem zuk : zZ Tryz.prog 174 = some [(0, 1), (1, 1), (2, 1)] := by kernel_rfl
theorem zul : zz Tryz.prog 174 = true := by kernel_rfl
theorem zum : zZ Tryz.prog 200 = some [(0, 1), (1, 1), (2, 1), (3, 1), (4, 1), (5, 1), (6, 2), (8, 2), (10, 2)] := by kernel_rfl
theorem zun : zz Tryz.prog 200 = true := by kernel_rfl
theorem zuo : zZ Tryz.prog 226 = some [(0, 1), (1, 1), (2, 1), (3, 1)] := by kernel_rfl
theorem zup : zz Tryz.prog 226 = true := by kernel_rfl
theorem zuq : zZ Tryz.prog 244 = some [(0, 1)] := by kernel_rfl
theorem zur : zz Tryz.prog 244 = true := by kernel_rfl
theorem zus : zZ Tryz.prog 249 = some [(0, 4), (4, 1), (5, 1), (6, 1)] := by kernel_rfl
theorem zut : zz Tryz.prog 249 = true := by kernel_rfl
theorem zuu : zZ Tryz.prog 326 = some [(0, 1), (1, 1), (2, 1), (3, 1), (4, 1), (5, 2)] := by kernel_rfl
theorem zuv : zz Tryz.prog 326 = true := by kernel_rfl
theorem zuw : zZ Tryz.prog 341 = some [(0, 1)] := by kernel_rfl
theorem zux : zz Tryz.prog 341 = true := by kernel_rfl
theorem zuy : zZ Tryz.prog 344 = some [(0, 1), (1, 1), (2, 2), (4, 1)] := by kernel_rfl
theorem zuz : zz Tryz.prog 344 = true := by kernel_rfl
theorem zuA : zZ Tryz.prog 373 = some [(0, 1), (1, 1), (2, 1)] := by kernel_rfl
theorem zuB : zz Tryz.prog 373 = true := by kernel_rfl
theorem zuC : zZ Tryz.prog 385 = some [(0, 1), (1, 1), (2, 1)] := by kernel_rfl
theorem zuD : zz Tryz.prog 385 = true := by kernel_rfl
theorem znD : zcu Tryz.prog 169 4 3 = true := by kernel_rfl
theorem zuE : zcu Tryz.prog 227 9 226 = true := by kernel_rfl
theorem zuF : zcu Tryz.prog 291 3 40 = true := by kernel_rfl
theorem zuG : zcu Tryz.prog 374 5 373 = true := by kernel_rfl
theorem zuH : zcu Tryz.prog 391 3 4 = true := by kernel_rfl
theorem zuI : zcu Tryz.prog 392 5 391 = true := by kernel_rfl
theorem zuJ : (eqOk Tryz.prog 5 40 && decide (5 <= 10000)) = true := by kernel_rfl
theorem fl40 : flat Tryz.prog 5 40 = [1, 1] := by kernel_rfl
theorem eqo42 : (eqOk Tryz.prog 5 42 && decide (5 <= 10000)) = true := by kernel_rfl
theorem fl42 : flat Tryz.prog 5 42 = [1, 1, 2] := by kernel_rfl
theorem zuK : (eqOk Tryz.prog 5 76 && decide (5 <= 10000)) = true := by kernel_rfl
theorem fl76 : flat Tryz.prog 5 76 = [1, 1, 1, 1, 2, 1, 2, 2, 1, 1, 1, 1, 2, 1, 1, 1, 1] := by kernel_rfl
theorem eq40 : (eqOk Tryz.prog 5 40 && decide (5 <= 10000)) = true := zuJ
theorem eg40 : Tryz.prog.eqGuardType Tryz.prog.depth 40 = false := by kernel_rfl
theorem eq42 : (eqOk Tryz.prog 5 42 && decide (5 <= 10000)) = true := eqo42
theorem eg42 : Tryz.prog.eqGuardType Tryz.prog.depth 42 = false := by kernel_rfl
theorem eq76 : (eqOk Tryz.prog 5 76 && decide (5 <= 10000)) = true := zuK
theorem eg76 : Tryz.prog.eqGuardType Tryz.prog.depth 76 = false := by kernel_rfl
theorem mo : Tryz.prog.follows .mixedOrders = true := by kernel_rfl
end Go.Rse
