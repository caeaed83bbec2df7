/-
  zbZ facts on the types, fields and functions of the translation: printed by program (genty.py).
-/
import Derived.Test.YtggdlojopkoegaaGreatDoorProg
import Derived.Test.YtggdlojopkoegaaGreatDoorHLogA
import Derived.KernelRfl
namespace Go.Rse
open Go Go.Proofs
theorem ty3 : tyOk Tryz.prog 3 false 1 = true := by kernel_rfl
theorem ty4 : tyOk Tryz.prog 4 false 1 = true := by kernel_rfl
theorem ty23 : tyOk Tryz.prog 23 true 4 = true := by kernel_rfl
theorem ty24 : tyOk Tryz.prog 24 false 1 = true := by kernel_rfl
theorem ty28 : tyOk Tryz.prog 28 false 1 = true := by kernel_rfl
theorem ty32 : tyOk Tryz.prog 32 true 3 = true := by kernel_rfl
theorem ty36 : tyOk Tryz.prog 36 false 1 = true := by kernel_rfl
theorem ty40 : tyOk Tryz.prog 40 true 2 = true := by kernel_rfl
theorem ty42 : tyOk Tryz.prog 42 true 3 = true := by kernel_rfl
theorem ty44 : tyOk Tryz.prog 44 false 1 = true := by kernel_rfl
theorem ty61 : tyOk Tryz.prog 61 false 1 = true := by kernel_rfl
theorem ty64 : tyOk Tryz.prog 64 false 1 = true := by kernel_rfl
theorem ty76 : tyOk Tryz.prog 76 true 17 = true := by kernel_rfl
theorem zkJ : tyOk Tryz.prog 110 true 4 = true := by kernel_rfl
theorem zr1 : tyOk Tryz.prog 127 true 5 = true := by kernel_rfl
theorem zaf : tyOk Tryz.prog 130 false 1 = true := by kernel_rfl
theorem zo9 : tyOk Tryz.prog 169 true 4 = true := by kernel_rfl
theorem zpa : tyOk Tryz.prog 174 true 3 = true := by kernel_rfl
theorem zr2 : tyOk Tryz.prog 194 false 1 = true := by kernel_rfl
theorem zi7 : tyOk Tryz.prog 200 true 12 = true := by kernel_rfl
theorem zr3 : tyOk Tryz.prog 207 false 1 = true := by kernel_rfl
theorem zr4 : tyOk Tryz.prog 224 false 1 = true := by kernel_rfl
theorem zr5 : tyOk Tryz.prog 226 true 4 = true := by kernel_rfl
theorem zpb : tyOk Tryz.prog 227 true 36 = true := by kernel_rfl
theorem zr6 : tyOk Tryz.prog 244 true 1 = true := by kernel_rfl
theorem zr7 : tyOk Tryz.prog 308 false 1 = true := by kernel_rfl
theorem zr8 : tyOk Tryz.prog 320 false 1 = true := by kernel_rfl
theorem zmI : tyOk Tryz.prog 326 true 7 = true := by kernel_rfl
theorem zr9 : tyOk Tryz.prog 333 false 1 = true := by kernel_rfl
theorem zsa : tyOk Tryz.prog 336 false 1 = true := by kernel_rfl
theorem zsb : tyOk Tryz.prog 341 true 1 = true := by kernel_rfl
theorem zsc : tyOk Tryz.prog 342 false 1 = true := by kernel_rfl
theorem zsd : tyOk Tryz.prog 371 false 1 = true := by kernel_rfl
theorem zse : tyOk Tryz.prog 373 true 3 = true := by kernel_rfl
theorem zpc : tyOk Tryz.prog 374 true 15 = true := by kernel_rfl
theorem zsf : tyOk Tryz.prog 385 true 3 = true := by kernel_rfl
theorem zsg : tyOk Tryz.prog 391 true 3 = true := by kernel_rfl
theorem zsh : tyOk Tryz.prog 392 true 15 = true := by kernel_rfl
theorem ze3 : (Tryz.prog.info? 3).bind (·.zero) = some (.int .i64 0) := by kernel_rfl
theorem zc3 : zi Tryz.prog 3 [.int .i64 0] := ⟨_, ze3, rfl⟩
theorem ze4 : (Tryz.prog.info? 4).bind (·.zero) = some (.bool false) := by kernel_rfl
theorem zc4 : zi Tryz.prog 4 [.bool false] := ⟨_, ze4, rfl⟩
theorem ze23 : (Tryz.prog.info? 23).bind (·.zero) = some (.agg #[.int .i64 0, .int .i64 0, .int .i64 0, .int .i64 0]) := by kernel_rfl
theorem zc23 : zi Tryz.prog 23 [.int .i64 0, .int .i64 0, .int .i64 0, .int .i64 0] := ⟨_, ze23, rfl⟩
theorem ze24 : (Tryz.prog.info? 24).bind (·.zero) = some (.slice none 0 0) := by kernel_rfl
theorem ze28 : (Tryz.prog.info? 28).bind (·.zero) = some (.int .i64 0) := by kernel_rfl
theorem zc28 : zi Tryz.prog 28 [.int .i64 0] := ⟨_, ze28, rfl⟩
theorem ze32 : (Tryz.prog.info? 32).bind (·.zero) = some (.agg #[.bool false, .bool false, .bool false]) := by kernel_rfl
theorem zc32 : zi Tryz.prog 32 [.bool false, .bool false, .bool false] := ⟨_, ze32, rfl⟩
theorem ze36 : (Tryz.prog.info? 36).bind (·.zero) = some (.slice none 0 0) := by kernel_rfl
theorem ze40 : (Tryz.prog.info? 40).bind (·.zero) = some (.agg #[.int .i64 0, .int .i64 0]) := by kernel_rfl
theorem zc40 : zi Tryz.prog 40 [.int .i64 0, .int .i64 0] := ⟨_, ze40, rfl⟩
theorem ze42 : (Tryz.prog.info? 42).bind (·.zero) = some (.agg #[.int .i64 0, .int .i64 0, .bool false]) := by kernel_rfl
theorem zc42 : zi Tryz.prog 42 [.int .i64 0, .int .i64 0, .bool false] := ⟨_, ze42, rfl⟩
theorem ze44 : (Tryz.prog.info? 44).bind (·.zero) = some (.slice none 0 0) := by kernel_rfl
theorem ze61 : (Tryz.prog.info? 61).bind (·.zero) = some (.slice none 0 0) := by kernel_rfl
theorem zc61 : zi Tryz.prog 61 [.nils] := ⟨_, ze61, rfl⟩
theorem ze64 : (Tryz.prog.info? 64).bind (·.zero) = some (.slice none 0 0) := by kernel_rfl
theorem zc64 : zi Tryz.prog 64 [.nils] := ⟨_, ze64, rfl⟩
theorem ze76 : (Tryz.prog.info? 76).bind (·.zero) = some (.agg #[.int .i64 0, .int .i64 0, .int .i64 0, .int .i64 0, .bool false, .int .i64 0, .bool false, .bool false, .int .i64 0, .int .i64 0, .int .i64 0, .int .i64 0, .bool false, .int .i64 0, .int .i64 0, .int .i64 0, .int .i64 0]) := by kernel_rfl
theorem zc76 : zi Tryz.prog 76 [.int .i64 0, .int .i64 0, .int .i64 0, .int .i64 0, .bool false, .int .i64 0, .bool false, .bool false, .int .i64 0, .int .i64 0, .int .i64 0, .int .i64 0, .bool false, .int .i64 0, .int .i64 0, .int .i64 0, .int .i64 0] := ⟨_, ze76, rfl⟩
theorem zsi : (Tryz.prog.info? 110).bind (·.zero) = some (.agg #[.slice none 0 0, .slice none 0 0, .slice none 0 0, .slice none 0 0]) := by kernel_rfl
theorem zsj : zi Tryz.prog 110 [.nils, .nils, .nils, .nils] := ⟨_, zsi, rfl⟩
theorem zpd : (Tryz.prog.info? 127).bind (·.zero) = some (.agg #[.int .i64 0, .bool false, .bool false, .bool false, .int .i64 0]) := by kernel_rfl
theorem zsk : zi Tryz.prog 127 [.int .i64 0, .bool false, .bool false, .bool false, .int .i64 0] := ⟨_, zpd, rfl⟩
theorem zsl : (Tryz.prog.info? 130).bind (·.zero) = some (.slice none 0 0) := by kernel_rfl
theorem zsm : zi Tryz.prog 130 [.nils] := ⟨_, zsl, rfl⟩
theorem zsn : (Tryz.prog.info? 169).bind (·.zero) = some (.agg #[.int .i64 0, .int .i64 0, .int .i64 0, .int .i64 0]) := by kernel_rfl
theorem zso : zi Tryz.prog 169 [.int .i64 0, .int .i64 0, .int .i64 0, .int .i64 0] := ⟨_, zsn, rfl⟩
theorem zpe : (Tryz.prog.info? 174).bind (·.zero) = some (.agg #[.int .i64 0, .bool false, .bool false]) := by kernel_rfl
theorem zsp : zi Tryz.prog 174 [.int .i64 0, .bool false, .bool false] := ⟨_, zpe, rfl⟩
theorem zsq : (Tryz.prog.info? 194).bind (·.zero) = some (.slice none 0 0) := by kernel_rfl
theorem zsr : zi Tryz.prog 194 [.nils] := ⟨_, zsq, rfl⟩
theorem zpf : (Tryz.prog.info? 200).bind (·.zero) = some (.agg #[.int .i64 0, .int .i64 0, .bool false, .bool false, .bool false, .int .i64 0, .int .i64 0, .int .i64 0, .int .i64 0, .int .i64 0, .int .i64 0, .int .i64 0]) := by kernel_rfl
theorem zhp : zi Tryz.prog 200 [.int .i64 0, .int .i64 0, .bool false, .bool false, .bool false, .int .i64 0, .int .i64 0, .int .i64 0, .int .i64 0, .int .i64 0, .int .i64 0, .int .i64 0] := ⟨_, zpf, rfl⟩
theorem zss : (Tryz.prog.info? 226).bind (·.zero) = some (.agg #[.bool false, .bool false, .bool false, .nilFunc]) := by kernel_rfl
theorem zst : zi Tryz.prog 226 [.bool false, .bool false, .bool false, .nilf] := ⟨_, zss, rfl⟩
theorem zsu : (Tryz.prog.info? 227).bind (·.zero) = some (.agg #[.bool false, .bool false, .bool false, .nilFunc, .bool false, .bool false, .bool false, .nilFunc, .bool false, .bool false, .bool false, .nilFunc, .bool false, .bool false, .bool false, .nilFunc, .bool false, .bool false, .bool false, .nilFunc, .bool false, .bool false, .bool false, .nilFunc, .bool false, .bool false, .bool false, .nilFunc, .bool false, .bool false, .bool false, .nilFunc, .bool false, .bool false, .bool false, .nilFunc]) := by kernel_rfl
theorem zsv : zi Tryz.prog 227 [.bool false, .bool false, .bool false, .nilf, .bool false, .bool false, .bool false, .nilf, .bool false, .bool false, .bool false, .nilf, .bool false, .bool false, .bool false, .nilf, .bool false, .bool false, .bool false, .nilf, .bool false, .bool false, .bool false, .nilf, .bool false, .bool false, .bool false, .nilf, .bool false, .bool false, .bool false, .nilf, .bool false, .bool false, .bool false, .nilf] := ⟨_, zsu, rfl⟩
theorem zsw : (Tryz.prog.info? 244).bind (·.zero) = some (.agg #[.int .i64 0]) := by kernel_rfl
theorem zsx : zi Tryz.prog 244 [.int .i64 0] := ⟨_, zsw, rfl⟩
theorem zsy : (Tryz.prog.info? 249).bind (·.zero) = some (.agg #[.int .i64 0, .int .i64 0, .int .i64 0, .int .i64 0, .slice none 0 0, .slice none 0 0, .slice none 0 0]) := by kernel_rfl
theorem zsz : zi Tryz.prog 249 [.int .i64 0, .int .i64 0, .int .i64 0, .int .i64 0, .nils, .nils, .nils] := ⟨_, zsy, rfl⟩
theorem zsA : (Tryz.prog.info? 291).bind (·.zero) = some (.agg #[.int .i64 0, .int .i64 0, .int .i64 0, .int .i64 0, .int .i64 0, .int .i64 0]) := by kernel_rfl
theorem zsB : zi Tryz.prog 291 [.int .i64 0, .int .i64 0, .int .i64 0, .int .i64 0, .int .i64 0, .int .i64 0] := ⟨_, zsA, rfl⟩
theorem zsC : (Tryz.prog.info? 308).bind (·.zero) = some (.nilFunc) := by kernel_rfl
theorem zsD : zi Tryz.prog 308 [.nilf] := ⟨_, zsC, rfl⟩
theorem zsE : (Tryz.prog.info? 320).bind (·.zero) = some (.slice none 0 0) := by kernel_rfl
theorem zsF : zi Tryz.prog 320 [.nils] := ⟨_, zsE, rfl⟩
theorem zmJ : (Tryz.prog.info? 326).bind (·.zero) = some (.agg #[.int .i64 0, .int .i64 0, .int .i64 0, .int .i64 0, .bool false, .int .i64 0, .int .i64 0]) := by kernel_rfl
theorem zsG : zi Tryz.prog 326 [.int .i64 0, .int .i64 0, .int .i64 0, .int .i64 0, .bool false, .int .i64 0, .int .i64 0] := ⟨_, zmJ, rfl⟩
theorem zsH : (Tryz.prog.info? 333).bind (·.zero) = some (.nilFunc) := by kernel_rfl
theorem zsI : zi Tryz.prog 333 [.nilf] := ⟨_, zsH, rfl⟩
theorem zsJ : (Tryz.prog.info? 341).bind (·.zero) = some (.agg #[.slice none 0 0]) := by kernel_rfl
theorem zsK : zi Tryz.prog 341 [.nils] := ⟨_, zsJ, rfl⟩
theorem zsL : (Tryz.prog.info? 344).bind (·.zero) = some (.agg #[.slice none 0 0, .int .i64 0, .int .i64 0, .int .i64 0, .map none]) := by kernel_rfl
theorem zsM : (Tryz.prog.info? 373).bind (·.zero) = some (.agg #[.nilFunc, .int .i64 0, .int .i64 0]) := by kernel_rfl
theorem zsN : (Tryz.prog.info? 374).bind (·.zero) = some (.agg #[.nilFunc, .int .i64 0, .int .i64 0, .nilFunc, .int .i64 0, .int .i64 0, .nilFunc, .int .i64 0, .int .i64 0, .nilFunc, .int .i64 0, .int .i64 0, .nilFunc, .int .i64 0, .int .i64 0]) := by kernel_rfl
theorem zsO : zi Tryz.prog 374 [.nilf, .int .i64 0, .int .i64 0, .nilf, .int .i64 0, .int .i64 0, .nilf, .int .i64 0, .int .i64 0, .nilf, .int .i64 0, .int .i64 0, .nilf, .int .i64 0, .int .i64 0] := ⟨_, zsN, rfl⟩
theorem zsP : (Tryz.prog.info? 385).bind (·.zero) = some (.agg #[.int .i64 0, .int .i64 0, .bool false]) := by kernel_rfl
theorem zsQ : zi Tryz.prog 385 [.int .i64 0, .int .i64 0, .bool false] := ⟨_, zsP, rfl⟩
theorem zsR : (Tryz.prog.info? 391).bind (·.zero) = some (.agg #[.bool false, .bool false, .bool false]) := by kernel_rfl
theorem zsS : zi Tryz.prog 391 [.bool false, .bool false, .bool false] := ⟨_, zsR, rfl⟩
theorem zsT : (Tryz.prog.info? 392).bind (·.zero) = some (.agg #[.bool false, .bool false, .bool false, .bool false, .bool false, .bool false, .bool false, .bool false, .bool false, .bool false, .bool false, .bool false, .bool false, .bool false, .bool false]) := by kernel_rfl
theorem zpg : zi Tryz.prog 392 [.bool false, .bool false, .bool false, .bool false, .bool false, .bool false, .bool false, .bool false, .bool false, .bool false, .bool false, .bool false, .bool false, .bool false, .bool false] := ⟨_, zsT, rfl⟩
theorem ti3 : zU Tryz.prog 3 (.int .i64 0) 1 8 := zG (by kernel_rfl) rfl
theorem ti4 : zU Tryz.prog 4 (.bool false) 1 1 := zG (by kernel_rfl) rfl
theorem ti24 : zU Tryz.prog 24 (.slice none 0 0) 1 24 := zG (by kernel_rfl) rfl
theorem ti36 : zU Tryz.prog 36 (.slice none 0 0) 1 24 := zG (by kernel_rfl) rfl
theorem ti40 : zU Tryz.prog 40 (.agg #[.int .i64 0, .int .i64 0]) 2 16 := zG (by kernel_rfl) rfl
theorem ti42 : zU Tryz.prog 42 (.agg #[.int .i64 0, .int .i64 0, .bool false]) 3 24 := zG (by kernel_rfl) rfl
theorem ti44 : zU Tryz.prog 44 (.slice none 0 0) 1 24 := zG (by kernel_rfl) rfl
theorem ti61 : zU Tryz.prog 61 (.slice none 0 0) 1 24 := zG (by kernel_rfl) rfl
theorem ti76 : zU Tryz.prog 76 (.agg #[.int .i64 0, .int .i64 0, .int .i64 0, .int .i64 0, .bool false, .int .i64 0, .bool false, .bool false, .int .i64 0, .int .i64 0, .int .i64 0, .int .i64 0, .bool false, .int .i64 0, .int .i64 0, .int .i64 0, .int .i64 0]) 17 128 := zG (by kernel_rfl) rfl
theorem zsU : zU Tryz.prog 127 (.agg #[.int .i64 0, .bool false, .bool false, .bool false, .int .i64 0]) 5 24 := zG (by kernel_rfl) rfl
theorem zsV : zU Tryz.prog 174 (.agg #[.int .i64 0, .bool false, .bool false]) 3 16 := zG (by kernel_rfl) rfl
theorem zsW : zU Tryz.prog 200 (.agg #[.int .i64 0, .int .i64 0, .bool false, .bool false, .bool false, .int .i64 0, .int .i64 0, .int .i64 0, .int .i64 0, .int .i64 0, .int .i64 0, .int .i64 0]) 12 80 := zG (by kernel_rfl) rfl
theorem zsX : zU Tryz.prog 326 (.agg #[.int .i64 0, .int .i64 0, .int .i64 0, .int .i64 0, .bool false, .int .i64 0, .int .i64 0]) 7 56 := zG (by kernel_rfl) rfl
theorem sl24 : slOk Tryz.prog 24 42 = true := by kernel_rfl
theorem sl36 : slOk Tryz.prog 36 44 = true := by kernel_rfl
theorem sl44 : slOk Tryz.prog 44 76 = true := by kernel_rfl
theorem sl61 : slOk Tryz.prog 61 3 = true := by kernel_rfl
theorem sl64 : slOk Tryz.prog 64 40 = true := by kernel_rfl
theorem sl78 : slOk Tryz.prog 78 24 = true := by kernel_rfl
theorem zsY : slOk Tryz.prog 123 127 = true := by kernel_rfl
theorem zaK : slOk Tryz.prog 130 4 = true := by kernel_rfl
theorem zmK : slOk Tryz.prog 135 36 = true := by kernel_rfl
theorem zsZ : slOk Tryz.prog 175 174 = true := by kernel_rfl
theorem zhq : slOk Tryz.prog 194 200 = true := by kernel_rfl
theorem zph : slOk Tryz.prog 282 61 = true := by kernel_rfl
theorem zmL : slOk Tryz.prog 320 326 = true := by kernel_rfl
theorem zqr : yW Tryz.prog 23 0 0 = true := by kernel_rfl
theorem zqs : yW Tryz.prog 23 1 1 = true := by kernel_rfl
theorem zqt : yW Tryz.prog 23 2 2 = true := by kernel_rfl
theorem zqu : yW Tryz.prog 23 3 3 = true := by kernel_rfl
theorem zqv : yW Tryz.prog 32 0 0 = true := by kernel_rfl
theorem zqw : yW Tryz.prog 32 1 1 = true := by kernel_rfl
theorem zqx : yW Tryz.prog 32 2 2 = true := by kernel_rfl
theorem zqy : yW Tryz.prog 40 0 0 = true := by kernel_rfl
theorem zqz : yW Tryz.prog 40 1 1 = true := by kernel_rfl
theorem zqA : yW Tryz.prog 42 0 0 = true := by kernel_rfl
theorem zqB : yW Tryz.prog 42 1 2 = true := by kernel_rfl
theorem zqC : yW Tryz.prog 76 0 0 = true := by kernel_rfl
theorem zqD : yW Tryz.prog 76 1 1 = true := by kernel_rfl
theorem zqE : yW Tryz.prog 76 4 4 = true := by kernel_rfl
theorem znW : yW Tryz.prog 110 3 3 = true := by kernel_rfl
theorem znX : yW Tryz.prog 127 0 0 = true := by kernel_rfl
theorem znY : yW Tryz.prog 127 1 1 = true := by kernel_rfl
theorem znZ : yW Tryz.prog 127 2 2 = true := by kernel_rfl
theorem zn0 : yW Tryz.prog 127 3 3 = true := by kernel_rfl
theorem zn1 : yW Tryz.prog 127 4 4 = true := by kernel_rfl
theorem zn2 : yW Tryz.prog 174 0 0 = true := by kernel_rfl
theorem zn3 : yW Tryz.prog 174 1 1 = true := by kernel_rfl
theorem zn4 : yW Tryz.prog 174 2 2 = true := by kernel_rfl
theorem zn5 : yW Tryz.prog 200 1 1 = true := by kernel_rfl
theorem zn6 : yW Tryz.prog 200 2 2 = true := by kernel_rfl
theorem zn7 : yW Tryz.prog 200 3 3 = true := by kernel_rfl
theorem zn8 : yW Tryz.prog 200 4 4 = true := by kernel_rfl
theorem zn9 : yW Tryz.prog 200 5 5 = true := by kernel_rfl
theorem zoa : yW Tryz.prog 200 6 6 = true := by kernel_rfl
theorem zob : yW Tryz.prog 200 7 8 = true := by kernel_rfl
theorem zoc : yW Tryz.prog 200 8 10 = true := by kernel_rfl
theorem zod : yW Tryz.prog 226 0 0 = true := by kernel_rfl
theorem zoe : yW Tryz.prog 226 1 1 = true := by kernel_rfl
theorem zof : yW Tryz.prog 226 2 2 = true := by kernel_rfl
theorem zog : yW Tryz.prog 226 3 3 = true := by kernel_rfl
theorem zoh : yW Tryz.prog 244 0 0 = true := by kernel_rfl
theorem zoi : yW Tryz.prog 249 0 0 = true := by kernel_rfl
theorem zoj : yW Tryz.prog 249 1 4 = true := by kernel_rfl
theorem zok : yW Tryz.prog 249 2 5 = true := by kernel_rfl
theorem zol : yW Tryz.prog 249 3 6 = true := by kernel_rfl
theorem zom : yW Tryz.prog 326 0 0 = true := by kernel_rfl
theorem zon : yW Tryz.prog 326 1 1 = true := by kernel_rfl
theorem zoo : yW Tryz.prog 326 2 2 = true := by kernel_rfl
theorem zop : yW Tryz.prog 326 3 3 = true := by kernel_rfl
theorem zoq : yW Tryz.prog 326 4 4 = true := by kernel_rfl
theorem zor : yW Tryz.prog 326 5 5 = true := by kernel_rfl
theorem zos : yW Tryz.prog 341 0 0 = true := by kernel_rfl
theorem zot : yW Tryz.prog 344 0 0 = true := by kernel_rfl
theorem zou : yW Tryz.prog 344 1 1 = true := by kernel_rfl
theorem zov : yW Tryz.prog 344 2 2 = true := by kernel_rfl
theorem zow : yW Tryz.prog 344 3 4 = true := by kernel_rfl
theorem zox : yW Tryz.prog 373 0 0 = true := by kernel_rfl
theorem zoy : yW Tryz.prog 373 1 1 = true := by kernel_rfl
theorem zoz : yW Tryz.prog 373 2 2 = true := by kernel_rfl
theorem zoA : yW Tryz.prog 385 0 0 = true := by kernel_rfl
theorem zoB : yW Tryz.prog 385 1 1 = true := by kernel_rfl
theorem zoC : yW Tryz.prog 385 2 2 = true := by kernel_rfl
theorem pl23 : zX Tryz.prog 23 = some [(0, 1), (1, 1), (2, 1), (3, 1)] := by kernel_rfl
theorem ia23 : zC Tryz.prog 23 = true := by kernel_rfl
theorem pl32 : zX Tryz.prog 32 = some [(0, 1), (1, 1), (2, 1)] := by kernel_rfl
theorem ia32 : zC Tryz.prog 32 = true := by kernel_rfl
theorem pl40 : zX Tryz.prog 40 = some [(0, 1), (1, 1)] := by kernel_rfl
theorem ia40 : zC Tryz.prog 40 = true := by kernel_rfl
theorem pl42 : zX Tryz.prog 42 = some [(0, 2), (2, 1)] := by kernel_rfl
theorem ia42 : zC Tryz.prog 42 = true := by kernel_rfl
theorem pl76 : zX Tryz.prog 76 = some [(0, 1), (1, 1), (2, 1), (3, 1), (4, 1), (5, 1), (6, 1), (7, 1), (8, 4), (12, 1), (13, 1), (14, 1), (15, 2)] := by kernel_rfl
theorem ia76 : zC Tryz.prog 76 = true := by kernel_rfl
theorem zs0 : zX Tryz.prog 110 = some [(0, 1), (1, 1), (2, 1), (3, 1)] := by kernel_rfl
theorem zs1 : zC Tryz.prog 110 = true := by kernel_rfl
theorem zs2 : zX Tryz.prog 127 = some [(0, 1), (1, 1), (2, 1), (3, 1), (4, 1)] := by kernel_rfl
theorem zs3 : zC Tryz.prog 127 = true := by kernel_rfl
theorem zs4 : zX Tryz.prog 174 = some [(0, 1), (1, 1), (2, 1)] := by kernel_rfl
theorem zs5 : zC Tryz.prog 174 = true := by kernel_rfl
theorem zs6 : zX Tryz.prog 200 = some [(0, 1), (1, 1), (2, 1), (3, 1), (4, 1), (5, 1), (6, 2), (8, 2), (10, 2)] := by kernel_rfl
theorem zs7 : zC Tryz.prog 200 = true := by kernel_rfl
theorem zs8 : zX Tryz.prog 226 = some [(0, 1), (1, 1), (2, 1), (3, 1)] := by kernel_rfl
theorem zs9 : zC Tryz.prog 226 = true := by kernel_rfl
theorem zta : zX Tryz.prog 244 = some [(0, 1)] := by kernel_rfl
theorem ztb : zC Tryz.prog 244 = true := by kernel_rfl
theorem ztc : zX Tryz.prog 249 = some [(0, 4), (4, 1), (5, 1), (6, 1)] := by kernel_rfl
theorem ztd : zC Tryz.prog 249 = true := by kernel_rfl
theorem zte : zX Tryz.prog 326 = some [(0, 1), (1, 1), (2, 1), (3, 1), (4, 1), (5, 2)] := by kernel_rfl
theorem ztf : zC Tryz.prog 326 = true := by kernel_rfl
theorem ztg : zX Tryz.prog 341 = some [(0, 1)] := by kernel_rfl
theorem zth : zC Tryz.prog 341 = true := by kernel_rfl
theorem zti : zX Tryz.prog 344 = some [(0, 1), (1, 1), (2, 2), (4, 1)] := by kernel_rfl
theorem ztj : zC Tryz.prog 344 = true := by kernel_rfl
theorem ztk : zX Tryz.prog 373 = some [(0, 1), (1, 1), (2, 1)] := by kernel_rfl
theorem ztl : zC Tryz.prog 373 = true := by kernel_rfl
theorem ztm : zX Tryz.prog 385 = some [(0, 1), (1, 1), (2, 1)] := by kernel_rfl
theorem ztn : zC Tryz.prog 385 = true := by kernel_rfl
theorem zmM : zcb Tryz.prog 169 4 3 = true := by kernel_rfl
theorem zto : zcb Tryz.prog 227 9 226 = true := by kernel_rfl
theorem ztp : zcb Tryz.prog 291 3 40 = true := by kernel_rfl
theorem ztq : zcb Tryz.prog 374 5 373 = true := by kernel_rfl
theorem ztr : zcb Tryz.prog 391 3 4 = true := by kernel_rfl
theorem zts : zcb Tryz.prog 392 5 391 = true := by kernel_rfl
theorem ztt : (eqOk Tryz.prog 5 40 && decide (5 <= 10000)) = true := by kernel_rfl
theorem fl40 : flat Tryz.prog 5 40 = [1, 1] := by kernel_rfl
theorem ztu : (eqOk Tryz.prog 5 42 && decide (5 <= 10000)) = true := by kernel_rfl
theorem fl42 : flat Tryz.prog 5 42 = [1, 1, 2] := by kernel_rfl
theorem ztv : (eqOk Tryz.prog 5 76 && decide (5 <= 10000)) = true := by kernel_rfl
theorem fl76 : flat Tryz.prog 5 76 = [1, 1, 1, 1, 2, 1, 2, 2, 1, 1, 1, 1, 2, 1, 1, 1, 1] := by kernel_rfl
theorem eq40 : (eqOk Tryz.prog 5 40 && decide (5 <= 10000)) = true := ztt
theorem eg40 : Tryz.prog.eqGuardType Tryz.prog.depth 40 = false := by kernel_rfl
theorem eq42 : (eqOk Tryz.prog 5 42 && decide (5 <= 10000)) = true := ztu
theorem eg42 : Tryz.prog.eqGuardType Tryz.prog.depth 42 = false := by kernel_rfl
theorem eq76 : (eqOk Tryz.prog 5 76 && decide (5 <= 10000)) = true := ztv
theorem eg76 : Tryz.prog.eqGuardType Tryz.prog.depth 76 = false := by kernel_rfl
theorem mo : Tryz.prog.follows .mixedOrders = true := by kernel_rfl
end Go.Rse
