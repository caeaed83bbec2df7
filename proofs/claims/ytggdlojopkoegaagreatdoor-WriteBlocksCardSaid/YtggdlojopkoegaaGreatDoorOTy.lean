/-
  zb0 facts on the types, fields and functions of the translation: printed by program (genty.py).
-/
import Derived.Test.YtggdlojopkoegaaGreatDoorProg
import Derived.Test.YtggdlojopkoegaaGreatDoorOLogA
import Derived.KernelRfl
namespace Go.Rse
open Go Go.Proofs
theorem ty3 : tyOk Tryz.prog 3 false 1 = true := by kernel_rfl
theorem ty4 : tyOk Tryz.prog 4 false 1 = true := by kernel_rfl
theorem ty23 : tyOk Tryz.prog 23 true 4 = true := by kernel_rfl
theorem ty24 : tyOk Tryz.prog 24 false 1 = true := by kernel_rfl
theorem ty28 : tyOk Tryz.prog 28 false 1 = true := by kernel_rfl
theorem ty32 : tyOk Tryz.prog 32 true 3 = true := by kernel_rfl
theorem ty36 : tyOk Tryz.prog 36 false 1 = true := by kernel_rfl
theorem ty40 : tyOk Tryz.prog 40 true 2 = true := by kernel_rfl
theorem ty42 : tyOk Tryz.prog 42 true 3 = true := by kernel_rfl
theorem ty44 : tyOk Tryz.prog 44 false 1 = true := by kernel_rfl
theorem ty61 : tyOk Tryz.prog 61 false 1 = true := by kernel_rfl
theorem ty64 : tyOk Tryz.prog 64 false 1 = true := by kernel_rfl
theorem ty76 : tyOk Tryz.prog 76 true 17 = true := by kernel_rfl
theorem zkV : tyOk Tryz.prog 110 true 4 = true := by kernel_rfl
theorem zsr : tyOk Tryz.prog 127 true 5 = true := by kernel_rfl
theorem zae : tyOk Tryz.prog 130 false 1 = true := by kernel_rfl
theorem zpt : tyOk Tryz.prog 169 true 4 = true := by kernel_rfl
theorem zpu : tyOk Tryz.prog 174 true 3 = true := by kernel_rfl
theorem zss : tyOk Tryz.prog 194 false 1 = true := by kernel_rfl
theorem zjg : tyOk Tryz.prog 200 true 12 = true := by kernel_rfl
theorem zst : tyOk Tryz.prog 207 false 1 = true := by kernel_rfl
theorem zsu : tyOk Tryz.prog 224 false 1 = true := by kernel_rfl
theorem zsv : tyOk Tryz.prog 226 true 4 = true := by kernel_rfl
theorem zpv : tyOk Tryz.prog 227 true 36 = true := by kernel_rfl
theorem zsw : tyOk Tryz.prog 244 true 1 = true := by kernel_rfl
theorem zsx : tyOk Tryz.prog 308 false 1 = true := by kernel_rfl
theorem zsy : tyOk Tryz.prog 320 false 1 = true := by kernel_rfl
theorem zmW : tyOk Tryz.prog 326 true 7 = true := by kernel_rfl
theorem zsz : tyOk Tryz.prog 333 false 1 = true := by kernel_rfl
theorem zsA : tyOk Tryz.prog 336 false 1 = true := by kernel_rfl
theorem zsB : tyOk Tryz.prog 341 true 1 = true := by kernel_rfl
theorem zsC : tyOk Tryz.prog 342 false 1 = true := by kernel_rfl
theorem zsD : tyOk Tryz.prog 371 false 1 = true := by kernel_rfl
theorem zsE : tyOk Tryz.prog 373 true 3 = true := by kernel_rfl
theorem zpw : tyOk Tryz.prog 374 true 15 = true := by kernel_rfl
theorem zsF : tyOk Tryz.prog 385 true 3 = true := by kernel_rfl
theorem zsG : tyOk Tryz.prog 391 true 3 = true := by kernel_rfl
theorem zsH : tyOk Tryz.prog 392 true 15 = true := by kernel_rfl
theorem ze3 : (Tryz.prog.info? 3).bind (·.zero) = some (.int .i64 0) := by kernel_rfl
theorem zc3 : zi Tryz.prog 3 [.int .i64 0] := ⟨_, ze3, rfl⟩
theorem ze4 : (Tryz.prog.info? 4).bind (·.zero) = some (.bool false) := by kernel_rfl
theorem zc4 : zi Tryz.prog 4 [.bool false] := ⟨_, ze4, rfl⟩
theorem ze23 : (Tryz.prog.info? 23).bind (·.zero) = some (.agg #[.int .i64 0, .int .i64 0, .int .i64 0, .int .i64 0]) := by kernel_rfl
theorem zc23 : zi Tryz.prog 23 [.int .i64 0, .int .i64 0, .int .i64 0, .int .i64 0] := ⟨_, ze23, rfl⟩
theorem ze24 : (Tryz.prog.info? 24).bind (·.zero) = some (.slice none 0 0) := by kernel_rfl
theorem ze28 : (Tryz.prog.info? 28).bind (·.zero) = some (.int .i64 0) := by kernel_rfl
theorem zc28 : zi Tryz.prog 28 [.int .i64 0] := ⟨_, ze28, rfl⟩
theorem ze32 : (Tryz.prog.info? 32).bind (·.zero) = some (.agg #[.bool false, .bool false, .bool false]) := by kernel_rfl
theorem zc32 : zi Tryz.prog 32 [.bool false, .bool false, .bool false] := ⟨_, ze32, rfl⟩
theorem ze36 : (Tryz.prog.info? 36).bind (·.zero) = some (.slice none 0 0) := by kernel_rfl
theorem ze40 : (Tryz.prog.info? 40).bind (·.zero) = some (.agg #[.int .i64 0, .int .i64 0]) := by kernel_rfl
theorem zc40 : zi Tryz.prog 40 [.int .i64 0, .int .i64 0] := ⟨_, ze40, rfl⟩
theorem ze42 : (Tryz.prog.info? 42).bind (·.zero) = some (.agg #[.int .i64 0, .int .i64 0, .bool false]) := by kernel_rfl
theorem zc42 : zi Tryz.prog 42 [.int .i64 0, .int .i64 0, .bool false] := ⟨_, ze42, rfl⟩
theorem ze44 : (Tryz.prog.info? 44).bind (·.zero) = some (.slice none 0 0) := by kernel_rfl
theorem ze61 : (Tryz.prog.info? 61).bind (·.zero) = some (.slice none 0 0) := by kernel_rfl
theorem zc61 : zi Tryz.prog 61 [.nils] := ⟨_, ze61, rfl⟩
theorem ze64 : (Tryz.prog.info? 64).bind (·.zero) = some (.slice none 0 0) := by kernel_rfl
theorem zc64 : zi Tryz.prog 64 [.nils] := ⟨_, ze64, rfl⟩
theorem ze76 : (Tryz.prog.info? 76).bind (·.zero) = some (.agg #[.int .i64 0, .int .i64 0, .int .i64 0, .int .i64 0, .bool false, .int .i64 0, .bool false, .bool false, .int .i64 0, .int .i64 0, .int .i64 0, .int .i64 0, .bool false, .int .i64 0, .int .i64 0, .int .i64 0, .int .i64 0]) := by kernel_rfl
theorem zc76 : zi Tryz.prog 76 [.int .i64 0, .int .i64 0, .int .i64 0, .int .i64 0, .bool false, .int .i64 0, .bool false, .bool false, .int .i64 0, .int .i64 0, .int .i64 0, .int .i64 0, .bool false, .int .i64 0, .int .i64 0, .int .i64 0, .int .i64 0] := ⟨_, ze76, rfl⟩
theorem zsI : (Tryz.prog.info? 110).bind (·.zero) = some (.agg #[.slice none 0 0, .slice none 0 0, .slice none 0 0, .slice none 0 0]) := by kernel_rfl
theorem zsJ : zi Tryz.prog 110 [.nils, .nils, .nils, .nils] := ⟨_, zsI, rfl⟩
theorem zpx : (Tryz.prog.info? 127).bind (·.zero) = some (.agg #[.int .i64 0, .bool false, .bool false, .bool false, .int .i64 0]) := by kernel_rfl
theorem zsK : zi Tryz.prog 127 [.int .i64 0, .bool false, .bool false, .bool false, .int .i64 0] := ⟨_, zpx, rfl⟩
theorem zsL : (Tryz.prog.info? 130).bind (·.zero) = some (.slice none 0 0) := by kernel_rfl
theorem zsM : zi Tryz.prog 130 [.nils] := ⟨_, zsL, rfl⟩
theorem zsN : (Tryz.prog.info? 169).bind (·.zero) = some (.agg #[.int .i64 0, .int .i64 0, .int .i64 0, .int .i64 0]) := by kernel_rfl
theorem zsO : zi Tryz.prog 169 [.int .i64 0, .int .i64 0, .int .i64 0, .int .i64 0] := ⟨_, zsN, rfl⟩
theorem zpy : (Tryz.prog.info? 174).bind (·.zero) = some (.agg #[.int .i64 0, .bool false, .bool false]) := by kernel_rfl
theorem zsP : zi Tryz.prog 174 [.int .i64 0, .bool false, .bool false] := ⟨_, zpy, rfl⟩
theorem zsQ : (Tryz.prog.info? 194).bind (·.zero) = some (.slice none 0 0) := by kernel_rfl
theorem zsR : zi Tryz.prog 194 [.nils] := ⟨_, zsQ, rfl⟩
theorem zpz : (Tryz.prog.info? 200).bind (·.zero) = some (.agg #[.int .i64 0, .int .i64 0, .bool false, .bool false, .bool false, .int .i64 0, .int .i64 0, .int .i64 0, .int .i64 0, .int .i64 0, .int .i64 0, .int .i64 0]) := by kernel_rfl
theorem zhx : zi Tryz.prog 200 [.int .i64 0, .int .i64 0, .bool false, .bool false, .bool false, .int .i64 0, .int .i64 0, .int .i64 0, .int .i64 0, .int .i64 0, .int .i64 0, .int .i64 0] := ⟨_, zpz, rfl⟩
theorem zsS : (Tryz.prog.info? 226).bind (·.zero) = some (.agg #[.bool false, .bool false, .bool false, .nilFunc]) := by kernel_rfl
theorem zsT : zi Tryz.prog 226 [.bool false, .bool false, .bool false, .nilf] := ⟨_, zsS, rfl⟩
theorem zsU : (Tryz.prog.info? 227).bind (·.zero) = some (.agg #[.bool false, .bool false, .bool false, .nilFunc, .bool false, .bool false, .bool false, .nilFunc, .bool false, .bool false, .bool false, .nilFunc, .bool false, .bool false, .bool false, .nilFunc, .bool false, .bool false, .bool false, .nilFunc, .bool false, .bool false, .bool false, .nilFunc, .bool false, .bool false, .bool false, .nilFunc, .bool false, .bool false, .bool false, .nilFunc, .bool false, .bool false, .bool false, .nilFunc]) := by kernel_rfl
theorem zsV : zi Tryz.prog 227 [.bool false, .bool false, .bool false, .nilf, .bool false, .bool false, .bool false, .nilf, .bool false, .bool false, .bool false, .nilf, .bool false, .bool false, .bool false, .nilf, .bool false, .bool false, .bool false, .nilf, .bool false, .bool false, .bool false, .nilf, .bool false, .bool false, .bool false, .nilf, .bool false, .bool false, .bool false, .nilf, .bool false, .bool false, .bool false, .nilf] := ⟨_, zsU, rfl⟩
theorem zsW : (Tryz.prog.info? 244).bind (·.zero) = some (.agg #[.int .i64 0]) := by kernel_rfl
theorem zsX : zi Tryz.prog 244 [.int .i64 0] := ⟨_, zsW, rfl⟩
theorem zsY : (Tryz.prog.info? 249).bind (·.zero) = some (.agg #[.int .i64 0, .int .i64 0, .int .i64 0, .int .i64 0, .slice none 0 0, .slice none 0 0, .slice none 0 0]) := by kernel_rfl
theorem zsZ : zi Tryz.prog 249 [.int .i64 0, .int .i64 0, .int .i64 0, .int .i64 0, .nils, .nils, .nils] := ⟨_, zsY, rfl⟩
theorem zs0 : (Tryz.prog.info? 291).bind (·.zero) = some (.agg #[.int .i64 0, .int .i64 0, .int .i64 0, .int .i64 0, .int .i64 0, .int .i64 0]) := by kernel_rfl
theorem zs1 : zi Tryz.prog 291 [.int .i64 0, .int .i64 0, .int .i64 0, .int .i64 0, .int .i64 0, .int .i64 0] := ⟨_, zs0, rfl⟩
theorem zs2 : (Tryz.prog.info? 308).bind (·.zero) = some (.nilFunc) := by kernel_rfl
theorem zs3 : zi Tryz.prog 308 [.nilf] := ⟨_, zs2, rfl⟩
theorem zs4 : (Tryz.prog.info? 320).bind (·.zero) = some (.slice none 0 0) := by kernel_rfl
theorem zs5 : zi Tryz.prog 320 [.nils] := ⟨_, zs4, rfl⟩
theorem zmX : (Tryz.prog.info? 326).bind (·.zero) = some (.agg #[.int .i64 0, .int .i64 0, .int .i64 0, .int .i64 0, .bool false, .int .i64 0, .int .i64 0]) := by kernel_rfl
theorem zs6 : zi Tryz.prog 326 [.int .i64 0, .int .i64 0, .int .i64 0, .int .i64 0, .bool false, .int .i64 0, .int .i64 0] := ⟨_, zmX, rfl⟩
theorem zs7 : (Tryz.prog.info? 333).bind (·.zero) = some (.nilFunc) := by kernel_rfl
theorem zs8 : zi Tryz.prog 333 [.nilf] := ⟨_, zs7, rfl⟩
theorem zs9 : (Tryz.prog.info? 341).bind (·.zero) = some (.agg #[.slice none 0 0]) := by kernel_rfl
theorem zta : zi Tryz.prog 341 [.nils] := ⟨_, zs9, rfl⟩
theorem ztb : (Tryz.prog.info? 344).bind (·.zero) = some (.agg #[.slice none 0 0, .int .i64 0, .int .i64 0, .int .i64 0, .map none]) := by kernel_rfl
theorem ztc : (Tryz.prog.info? 373).bind (·.zero) = some (.agg #[.nilFunc, .int .i64 0, .int .i64 0]) := by kernel_rfl
theorem ztd : (Tryz.prog.info? 374).bind (·.zero) = some (.agg #[.nilFunc, .int .i64 0, .int .i64 0, .nilFunc, .int .i64 0, .int .i64 0, .nilFunc, .int .i64 0, .int .i64 0, .nilFunc, .int .i64 0, .int .i64 0, .nilFunc, .int .i64 0, .int .i64 0]) := by kernel_rfl
theorem zte : zi Tryz.prog 374 [.nilf, .int .i64 0, .int .i64 0, .nilf, .int .i64 0, .int .i64 0, .nilf, .int .i64 0, .int .i64 0, .nilf, .int .i64 0, .int .i64 0, .nilf, .int .i64 0, .int .i64 0] := ⟨_, ztd, rfl⟩
theorem ztf : (Tryz.prog.info? 385).bind (·.zero) = some (.agg #[.int .i64 0, .int .i64 0, .bool false]) := by kernel_rfl
theorem ztg : zi Tryz.prog 385 [.int .i64 0, .int .i64 0, .bool false] := ⟨_, ztf, rfl⟩
theorem zth : (Tryz.prog.info? 391).bind (·.zero) = some (.agg #[.bool false, .bool false, .bool false]) := by kernel_rfl
theorem zti : zi Tryz.prog 391 [.bool false, .bool false, .bool false] := ⟨_, zth, rfl⟩
theorem ztj : (Tryz.prog.info? 392).bind (·.zero) = some (.agg #[.bool false, .bool false, .bool false, .bool false, .bool false, .bool false, .bool false, .bool false, .bool false, .bool false, .bool false, .bool false, .bool false, .bool false, .bool false]) := by kernel_rfl
theorem zpA : zi Tryz.prog 392 [.bool false, .bool false, .bool false, .bool false, .bool false, .bool false, .bool false, .bool false, .bool false, .bool false, .bool false, .bool false, .bool false, .bool false, .bool false] := ⟨_, ztj, rfl⟩
theorem ti3 : zT Tryz.prog 3 (.int .i64 0) 1 8 := zG (by kernel_rfl) rfl
theorem ti4 : zT Tryz.prog 4 (.bool false) 1 1 := zG (by kernel_rfl) rfl
theorem ti24 : zT Tryz.prog 24 (.slice none 0 0) 1 24 := zG (by kernel_rfl) rfl
theorem ti36 : zT Tryz.prog 36 (.slice none 0 0) 1 24 := zG (by kernel_rfl) rfl
theorem ti40 : zT Tryz.prog 40 (.agg #[.int .i64 0, .int .i64 0]) 2 16 := zG (by kernel_rfl) rfl
theorem ti42 : zT Tryz.prog 42 (.agg #[.int .i64 0, .int .i64 0, .bool false]) 3 24 := zG (by kernel_rfl) rfl
theorem ti44 : zT Tryz.prog 44 (.slice none 0 0) 1 24 := zG (by kernel_rfl) rfl
theorem ti61 : zT Tryz.prog 61 (.slice none 0 0) 1 24 := zG (by kernel_rfl) rfl
theorem ti76 : zT Tryz.prog 76 (.agg #[.int .i64 0, .int .i64 0, .int .i64 0, .int .i64 0, .bool false, .int .i64 0, .bool false, .bool false, .int .i64 0, .int .i64 0, .int .i64 0, .int .i64 0, .bool false, .int .i64 0, .int .i64 0, .int .i64 0, .int .i64 0]) 17 128 := zG (by kernel_rfl) rfl
theorem ztk : zT Tryz.prog 127 (.agg #[.int .i64 0, .bool false, .bool false, .bool false, .int .i64 0]) 5 24 := zG (by kernel_rfl) rfl
theorem ztl : zT Tryz.prog 174 (.agg #[.int .i64 0, .bool false, .bool false]) 3 16 := zG (by kernel_rfl) rfl
theorem ztm : zT Tryz.prog 200 (.agg #[.int .i64 0, .int .i64 0, .bool false, .bool false, .bool false, .int .i64 0, .int .i64 0, .int .i64 0, .int .i64 0, .int .i64 0, .int .i64 0, .int .i64 0]) 12 80 := zG (by kernel_rfl) rfl
theorem ztn : zT Tryz.prog 326 (.agg #[.int .i64 0, .int .i64 0, .int .i64 0, .int .i64 0, .bool false, .int .i64 0, .int .i64 0]) 7 56 := zG (by kernel_rfl) rfl
theorem sl24 : slOk Tryz.prog 24 42 = true := by kernel_rfl
theorem sl36 : slOk Tryz.prog 36 44 = true := by kernel_rfl
theorem sl44 : slOk Tryz.prog 44 76 = true := by kernel_rfl
theorem sl61 : slOk Tryz.prog 61 3 = true := by kernel_rfl
theorem sl64 : slOk Tryz.prog 64 40 = true := by kernel_rfl
theorem sl78 : slOk Tryz.prog 78 24 = true := by kernel_rfl
theorem zto : slOk Tryz.prog 123 127 = true := by kernel_rfl
theorem zaK : slOk Tryz.prog 130 4 = true := by kernel_rfl
theorem zmY : slOk Tryz.prog 135 36 = true := by kernel_rfl
theorem ztp : slOk Tryz.prog 175 174 = true := by kernel_rfl
theorem zhy : slOk Tryz.prog 194 200 = true := by kernel_rfl
theorem zpB : slOk Tryz.prog 282 61 = true := by kernel_rfl
theorem zmZ : slOk Tryz.prog 320 326 = true := by kernel_rfl
theorem zqK : yW Tryz.prog 23 0 0 = true := by kernel_rfl
theorem zqL : yW Tryz.prog 23 1 1 = true := by kernel_rfl
theorem zqM : yW Tryz.prog 23 2 2 = true := by kernel_rfl
theorem zqN : yW Tryz.prog 23 3 3 = true := by kernel_rfl
theorem zqO : yW Tryz.prog 32 0 0 = true := by kernel_rfl
theorem zqP : yW Tryz.prog 32 1 1 = true := by kernel_rfl
theorem zqQ : yW Tryz.prog 32 2 2 = true := by kernel_rfl
theorem zqR : yW Tryz.prog 40 0 0 = true := by kernel_rfl
theorem zqS : yW Tryz.prog 40 1 1 = true := by kernel_rfl
theorem zqT : yW Tryz.prog 42 0 0 = true := by kernel_rfl
theorem zqU : yW Tryz.prog 42 1 2 = true := by kernel_rfl
theorem zqV : yW Tryz.prog 76 0 0 = true := by kernel_rfl
theorem zqW : yW Tryz.prog 76 1 1 = true := by kernel_rfl
theorem zqX : yW Tryz.prog 76 4 4 = true := by kernel_rfl
theorem zoe : yW Tryz.prog 110 3 3 = true := by kernel_rfl
theorem zof : yW Tryz.prog 127 0 0 = true := by kernel_rfl
theorem zog : yW Tryz.prog 127 1 1 = true := by kernel_rfl
theorem zoh : yW Tryz.prog 127 2 2 = true := by kernel_rfl
theorem zoi : yW Tryz.prog 127 3 3 = true := by kernel_rfl
theorem zoj : yW Tryz.prog 127 4 4 = true := by kernel_rfl
theorem zok : yW Tryz.prog 174 0 0 = true := by kernel_rfl
theorem zol : yW Tryz.prog 174 1 1 = true := by kernel_rfl
theorem zom : yW Tryz.prog 174 2 2 = true := by kernel_rfl
theorem zon : yW Tryz.prog 200 1 1 = true := by kernel_rfl
theorem zoo : yW Tryz.prog 200 2 2 = true := by kernel_rfl
theorem zop : yW Tryz.prog 200 3 3 = true := by kernel_rfl
theorem zoq : yW Tryz.prog 200 4 4 = true := by kernel_rfl
theorem zor : yW Tryz.prog 200 5 5 = true := by kernel_rfl
theorem zos : yW Tryz.prog 200 6 6 = true := by kernel_rfl
theorem zot : yW Tryz.prog 200 7 8 = true := by kernel_rfl
theorem zou : yW Tryz.prog 200 8 10 = true := by kernel_rfl
theorem zov : yW Tryz.prog 226 0 0 = true := by kernel_rfl
theorem zow : yW Tryz.prog 226 1 1 = true := by kernel_rfl
theorem zox : yW Tryz.prog 226 2 2 = true := by kernel_rfl
theorem zoy : yW Tryz.prog 226 3 3 = true := by kernel_rfl
theorem zoz : yW Tryz.prog 244 0 0 = true := by kernel_rfl
theorem zoA : yW Tryz.prog 249 0 0 = true := by kernel_rfl
theorem zoB : yW Tryz.prog 249 1 4 = true := by kernel_rfl
theorem zoC : yW Tryz.prog 249 2 5 = true := by kernel_rfl
theorem zoD : yW Tryz.prog 249 3 6 = true := by kernel_rfl
theorem zoE : yW Tryz.prog 326 0 0 = true := by kernel_rfl
theorem zoF : yW Tryz.prog 326 1 1 = true := by kernel_rfl
theorem zoG : yW Tryz.prog 326 2 2 = true := by kernel_rfl
theorem zoH : yW Tryz.prog 326 3 3 = true := by kernel_rfl
theorem zoI : yW Tryz.prog 326 4 4 = true := by kernel_rfl
theorem zoJ : yW Tryz.prog 326 5 5 = true := by kernel_rfl
theorem zoK : yW Tryz.prog 341 0 0 = true := by kernel_rfl
theorem zoL : yW Tryz.prog 344 0 0 = true := by kernel_rfl
theorem zoM : yW Tryz.prog 344 1 1 = true := by kernel_rfl
theorem zoN : yW Tryz.prog 344 2 2 = true := by kernel_rfl
theorem zoO : yW Tryz.prog 344 3 4 = true := by kernel_rfl
theorem zoP : yW Tryz.prog 373 0 0 = true := by kernel_rfl
theorem zoQ : yW Tryz.prog 373 1 1 = true := by kernel_rfl
theorem zoR : yW Tryz.prog 373 2 2 = true := by kernel_rfl
theorem zoS : yW Tryz.prog 385 0 0 = true := by kernel_rfl
theorem zoT : yW Tryz.prog 385 1 1 = true := by kernel_rfl
theorem zoU : yW Tryz.prog 385 2 2 = true := by kernel_rfl
theorem pl23 : zW Tryz.prog 23 = some [(0, 1), (1, 1), (2, 1), (3, 1)] := by kernel_rfl
theorem ia23 : zB Tryz.prog 23 = true := by kernel_rfl
theorem pl32 : zW Tryz.prog 32 = some [(0, 1), (1, 1), (2, 1)] := by kernel_rfl
theorem ia32 : zB Tryz.prog 32 = true := by kernel_rfl
theorem pl40 : zW Tryz.prog 40 = some [(0, 1), (1, 1)] := by kernel_rfl
theorem ia40 : zB Tryz.prog 40 = true := by kernel_rfl
theorem pl42 : zW Tryz.prog 42 = some [(0, 2), (2, 1)] := by kernel_rfl
theorem ia42 : zB Tryz.prog 42 = true := by kernel_rfl
theorem pl76 : zW Tryz.prog 76 = some [(0, 1), (1, 1), (2, 1), (3, 1), (4, 1), (5, 1), (6, 1), (7, 1), (8, 4), (12, 1), (13, 1), (14, 1), (15, 2)] := by kernel_rfl
theorem ia76 : zB Tryz.prog 76 = true := by kernel_rfl
theorem ztq : zW Tryz.prog 110 = some [(0, 1), (1, 1), (2, 1), (3, 1)] := by kernel_rfl
theorem ztr : zB Tryz.prog 110 = true := by kernel_rfl
theorem zts : zW Tryz.prog 127 = some [(0, 1), (1, 1), (2, 1), (3, 1), (4, 1)] := by kernel_rfl
theorem ztt : zB Tryz.prog 127 = true := by kernel_rfl
theorem ztu : zW Tryz.prog 174 = some [(0, 1), (1, 1), (2, 1)] := by kernel_rfl
theorem ztv : zB Tryz.prog 174 = true := by kernel_rfl
theorem ztw : zW Tryz.prog 200 = some [(0, 1), (1, 1), (2, 1), (3, 1), (4, 1), (5, 1), (6, 2), (8, 2), (10, 2)] := by kernel_rfl
theorem ztx : zB Tryz.prog 200 = true := by kernel_rfl
theorem zty : zW Tryz.prog 226 = some [(0, 1), (1, 1), (2, 1), (3, 1)] := by kernel_rfl
theorem ztz : zB Tryz.prog 226 = true := by kernel_rfl
theorem ztA : zW Tryz.prog 244 = some [(0, 1)] := by kernel_rfl
theorem ztB : zB Tryz.prog 244 = true := by kernel_rfl
theorem ztC : zW Tryz.prog 249 = some [(0, 4), (4, 1), (5, 1), (6, 1)] := by kernel_rfl
theorem ztD : zB Tryz.prog 249 = true := by kernel_rfl
theorem ztE : zW Tryz.prog 326 = some [(0, 1), (1, 1), (2, 1), (3, 1), (4, 1), (5, 2)] := by kernel_rfl
theorem ztF : zB Tryz.prog 326 = true := by kernel_rfl
theorem ztG : zW Tryz.prog 341 = some [(0, 1)] := by kernel_rfl
theorem ztH : zB Tryz.prog 341 = true := by kernel_rfl
theorem ztI : zW Tryz.prog 344 = some [(0, 1), (1, 1), (2, 2), (4, 1)] := by kernel_rfl
theorem ztJ : zB Tryz.prog 344 = true := by kernel_rfl
theorem ztK : zW Tryz.prog 373 = some [(0, 1), (1, 1), (2, 1)] := by kernel_rfl
theorem ztL : zB Tryz.prog 373 = true := by kernel_rfl
theorem ztM : zW Tryz.prog 385 = some [(0, 1), (1, 1), (2, 1)] := by kernel_rfl
theorem ztN : zB Tryz.prog 385 = true := by kernel_rfl
theorem zm0 : zcc Tryz.prog 169 4 3 = true := by kernel_rfl
theorem ztO : zcc Tryz.prog 227 9 226 = true := by kernel_rfl
theorem ztP : zcc Tryz.prog 291 3 40 = true := by kernel_rfl
theorem ztQ : zcc Tryz.prog 374 5 373 = true := by kernel_rfl
theorem ztR : zcc Tryz.prog 391 3 4 = true := by kernel_rfl
theorem ztS : zcc Tryz.prog 392 5 391 = true := by kernel_rfl
theorem ztT : (eqOk Tryz.prog 5 40 && decide (5 <= 10000)) = true := by kernel_rfl
theorem fl40 : flat Tryz.prog 5 40 = [1, 1] := by kernel_rfl
theorem ztU : (eqOk Tryz.prog 5 42 && decide (5 <= 10000)) = true := by kernel_rfl
theorem fl42 : flat Tryz.prog 5 42 = [1, 1, 2] := by kernel_rfl
theorem ztV : (eqOk Tryz.prog 5 76 && decide (5 <= 10000)) = true := by kernel_rfl
theorem fl76 : flat Tryz.prog 5 76 = [1, 1, 1, 1, 2, 1, 2, 2, 1, 1, 1, 1, 2, 1, 1, 1, 1] := by kernel_rfl
theorem eq40 : (eqOk Tryz.prog 5 40 && decide (5 <= 10000)) = true := ztT
theorem eg40 : Tryz.prog.eqGuardType Tryz.prog.depth 40 = false := by kernel_rfl
theorem eq42 : (eqOk Tryz.prog 5 42 && decide (5 <= 10000)) = true := ztU
theorem eg42 : Tryz.prog.eqGuardType Tryz.prog.depth 42 = false := by kernel_rfl
theorem eq76 : (eqOk Tryz.prog 5 76 && decide (5 <= 10000)) = true := ztV
theorem eg76 : Tryz.prog.eqGuardType Tryz.prog.depth 76 = false := by kernel_rfl
theorem mo : Tryz.prog.follows .mixedOrders = true := by kernel_rfl
end Go.Rse
