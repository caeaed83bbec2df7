/-
  Closed facts on the types, fields and functions of the translation: printed by program (genty.py).
-/
import Derived.Test.YtmbjfeaipblfcaaGreatDoorProg
import Derived.Test.YtmbjfeaipblfcaaGreatDoorLogA
import Derived.KernelRfl
namespace Go.Rse
open Go Go.Proofs
theorem ty3 : tyOk Tryz.prog 3 false 1 = true := by kernel_rfl
theorem ty4 : tyOk Tryz.prog 4 false 1 = true := by kernel_rfl
theorem ty23 : tyOk Tryz.prog 23 true 4 = true := by kernel_rfl
theorem ty24 : tyOk Tryz.prog 24 false 1 = true := by kernel_rfl
theorem ty25 : tyOk Tryz.prog 25 false 1 = true := by kernel_rfl
theorem ty29 : tyOk Tryz.prog 29 false 1 = true := by kernel_rfl
theorem ty30 : tyOk Tryz.prog 30 false 1 = true := by kernel_rfl
theorem ty49 : tyOk Tryz.prog 49 true 17 = true := by kernel_rfl
theorem ty51 : tyOk Tryz.prog 51 true 2 = true := by kernel_rfl
theorem ty53 : tyOk Tryz.prog 53 true 12 = true := by kernel_rfl
theorem ty70 : tyOk Tryz.prog 70 false 1 = true := by kernel_rfl
theorem ty72 : tyOk Tryz.prog 72 true 4 = true := by kernel_rfl
theorem ty82 : tyOk Tryz.prog 82 false 1 = true := by kernel_rfl
theorem ty89 : tyOk Tryz.prog 89 false 1 = true := by kernel_rfl
theorem ty107 : tyOk Tryz.prog 107 false 1 = true := by kernel_rfl
theorem ty116 : tyOk Tryz.prog 116 true 7 = true := by kernel_rfl
theorem ty124 : tyOk Tryz.prog 124 true 1 = true := by kernel_rfl
theorem ty128 : tyOk Tryz.prog 128 true 7 = true := by kernel_rfl
theorem ty138 : tyOk Tryz.prog 138 true 1 = true := by kernel_rfl
theorem ty141 : tyOk Tryz.prog 141 false 1 = true := by kernel_rfl
theorem ty145 : tyOk Tryz.prog 145 false 1 = true := by kernel_rfl
theorem ty147 : tyOk Tryz.prog 147 true 5 = true := by kernel_rfl
theorem ty171 : tyOk Tryz.prog 171 true 9 = true := by kernel_rfl
theorem ty175 : tyOk Tryz.prog 175 false 1 = true := by kernel_rfl
theorem ty177 : tyOk Tryz.prog 177 true 3 = true := by kernel_rfl
theorem ty178 : tyOk Tryz.prog 178 true 15 = true := by kernel_rfl
theorem ty183 : tyOk Tryz.prog 183 true 3 = true := by kernel_rfl
theorem ty190 : tyOk Tryz.prog 190 true 7 = true := by kernel_rfl
theorem ty191 : tyOk Tryz.prog 191 false 1 = true := by kernel_rfl
theorem ty194 : tyOk Tryz.prog 194 true 4 = true := by kernel_rfl
theorem ty201 : tyOk Tryz.prog 201 true 3 = true := by kernel_rfl
theorem ty209 : tyOk Tryz.prog 209 false 1 = true := by kernel_rfl
theorem ty216 : tyOk Tryz.prog 216 true 3 = true := by kernel_rfl
theorem ty217 : tyOk Tryz.prog 217 true 15 = true := by kernel_rfl
theorem ty248 : tyOk Tryz.prog 248 false 1 = true := by kernel_rfl
theorem us3 : (Program.underlying Tryz.prog 3).isSome = true := by kernel_rfl
theorem us5 : (Program.underlying Tryz.prog 5).isSome = true := by kernel_rfl
theorem us163 : (Program.underlying Tryz.prog 163).isSome = true := by kernel_rfl
theorem us244 : (Program.underlying Tryz.prog 244).isSome = true := by kernel_rfl
theorem us246 : (Program.underlying Tryz.prog 246).isSome = true := by kernel_rfl
theorem un3 : Program.underlying Tryz.prog 3 = some (.int .i64) := by kernel_rfl
theorem un5 : Program.underlying Tryz.prog 5 = some (.int .u8) := by kernel_rfl
theorem un163 : Program.underlying Tryz.prog 163 = some (.int .u64) := by kernel_rfl
theorem un244 : Program.underlying Tryz.prog 244 = some (.int .u32) := by kernel_rfl
theorem un248 : Program.underlying Tryz.prog 248 = some (.int .u64) := by kernel_rfl
theorem ze3 : (Tryz.prog.info? 3).bind (·.zero) = some (.int .i64 0) := by kernel_rfl
theorem zc3 : zCells Tryz.prog 3 [.int .i64 0] := ⟨_, ze3, rfl⟩
theorem ze4 : (Tryz.prog.info? 4).bind (·.zero) = some (.bool false) := by kernel_rfl
theorem zc4 : zCells Tryz.prog 4 [.bool false] := ⟨_, ze4, rfl⟩
theorem ze23 : (Tryz.prog.info? 23).bind (·.zero) = some (.agg #[.int .i64 0, .int .i64 0, .int .i64 0, .int .i64 0]) := by kernel_rfl
theorem zc23 : zCells Tryz.prog 23 [.int .i64 0, .int .i64 0, .int .i64 0, .int .i64 0] := ⟨_, ze23, rfl⟩
theorem ze24 : (Tryz.prog.info? 24).bind (·.zero) = some (.slice none 0 0) := by kernel_rfl
theorem zc24 : zCells Tryz.prog 24 [.nils] := ⟨_, ze24, rfl⟩
theorem ze25 : (Tryz.prog.info? 25).bind (·.zero) = some (.slice none 0 0) := by kernel_rfl
theorem zc25 : zCells Tryz.prog 25 [.nils] := ⟨_, ze25, rfl⟩
theorem ze29 : (Tryz.prog.info? 29).bind (·.zero) = some (.slice none 0 0) := by kernel_rfl
theorem zc29 : zCells Tryz.prog 29 [.nils] := ⟨_, ze29, rfl⟩
theorem ze30 : (Tryz.prog.info? 30).bind (·.zero) = some (.int .i64 0) := by kernel_rfl
theorem zc30 : zCells Tryz.prog 30 [.int .i64 0] := ⟨_, ze30, rfl⟩
theorem ze49 : (Tryz.prog.info? 49).bind (·.zero) = some (.agg #[.int .i64 0, .int .i64 0, .int .i64 0, .int .i64 0, .bool false, .int .i64 0, .bool false, .bool false, .int .i64 0, .int .i64 0, .int .i64 0, .int .i64 0, .bool false, .int .i64 0, .int .i64 0, .int .i64 0, .int .i64 0]) := by kernel_rfl
theorem zc49 : zCells Tryz.prog 49 [.int .i64 0, .int .i64 0, .int .i64 0, .int .i64 0, .bool false, .int .i64 0, .bool false, .bool false, .int .i64 0, .int .i64 0, .int .i64 0, .int .i64 0, .bool false, .int .i64 0, .int .i64 0, .int .i64 0, .int .i64 0] := ⟨_, ze49, rfl⟩
theorem ze51 : (Tryz.prog.info? 51).bind (·.zero) = some (.agg #[.int .i64 0, .int .i64 0]) := by kernel_rfl
theorem zc51 : zCells Tryz.prog 51 [.int .i64 0, .int .i64 0] := ⟨_, ze51, rfl⟩
theorem ze53 : (Tryz.prog.info? 53).bind (·.zero) = some (.agg #[.int .i64 0, .int .i64 0, .bool false, .bool false, .bool false, .int .i64 0, .int .i64 0, .int .i64 0, .int .i64 0, .int .i64 0, .int .i64 0, .int .i64 0]) := by kernel_rfl
theorem zc53 : zCells Tryz.prog 53 [.int .i64 0, .int .i64 0, .bool false, .bool false, .bool false, .int .i64 0, .int .i64 0, .int .i64 0, .int .i64 0, .int .i64 0, .int .i64 0, .int .i64 0] := ⟨_, ze53, rfl⟩
theorem ze70 : (Tryz.prog.info? 70).bind (·.zero) = some (.slice none 0 0) := by kernel_rfl
theorem zc70 : zCells Tryz.prog 70 [.nils] := ⟨_, ze70, rfl⟩
theorem ze72 : (Tryz.prog.info? 72).bind (·.zero) = some (.agg #[.slice none 0 0, .slice none 0 0, .slice none 0 0, .slice none 0 0]) := by kernel_rfl
theorem zc72 : zCells Tryz.prog 72 [.nils, .nils, .nils, .nils] := ⟨_, ze72, rfl⟩
theorem ze82 : (Tryz.prog.info? 82).bind (·.zero) = some (.slice none 0 0) := by kernel_rfl
theorem zc82 : zCells Tryz.prog 82 [.nils] := ⟨_, ze82, rfl⟩
theorem ze89 : (Tryz.prog.info? 89).bind (·.zero) = some (.slice none 0 0) := by kernel_rfl
theorem zc89 : zCells Tryz.prog 89 [.nils] := ⟨_, ze89, rfl⟩
theorem ze107 : (Tryz.prog.info? 107).bind (·.zero) = some (.slice none 0 0) := by kernel_rfl
theorem zc107 : zCells Tryz.prog 107 [.nils] := ⟨_, ze107, rfl⟩
theorem ze116 : (Tryz.prog.info? 116).bind (·.zero) = some (.agg #[.int .i64 0, .int .i64 0, .int .i64 0, .int .i64 0, .bool false, .int .i64 0, .int .i64 0]) := by kernel_rfl
theorem zc116 : zCells Tryz.prog 116 [.int .i64 0, .int .i64 0, .int .i64 0, .int .i64 0, .bool false, .int .i64 0, .int .i64 0] := ⟨_, ze116, rfl⟩
theorem ze124 : (Tryz.prog.info? 124).bind (·.zero) = some (.agg #[.int .i64 0]) := by kernel_rfl
theorem zc124 : zCells Tryz.prog 124 [.int .i64 0] := ⟨_, ze124, rfl⟩
theorem ze128 : (Tryz.prog.info? 128).bind (·.zero) = some (.agg #[.int .i64 0, .int .i64 0, .int .i64 0, .int .i64 0, .slice none 0 0, .slice none 0 0, .slice none 0 0]) := by kernel_rfl
theorem zc128 : zCells Tryz.prog 128 [.int .i64 0, .int .i64 0, .int .i64 0, .int .i64 0, .nils, .nils, .nils] := ⟨_, ze128, rfl⟩
theorem ze138 : (Tryz.prog.info? 138).bind (·.zero) = some (.agg #[.slice none 0 0]) := by kernel_rfl
theorem zc138 : zCells Tryz.prog 138 [.nils] := ⟨_, ze138, rfl⟩
theorem ze141 : (Tryz.prog.info? 141).bind (·.zero) = some (.pointer none) := by kernel_rfl
theorem ze145 : (Tryz.prog.info? 145).bind (·.zero) = some (.map none) := by kernel_rfl
theorem ze147 : (Tryz.prog.info? 147).bind (·.zero) = some (.agg #[.slice none 0 0, .int .i64 0, .int .i64 0, .int .i64 0, .map none]) := by kernel_rfl
theorem ze171 : (Tryz.prog.info? 171).bind (·.zero) = some (.agg #[.string ⟨#[]⟩, .slice none 0 0, .int .i64 0, .int .i64 0, .int .i64 0, .int .i64 0, .int .i64 0, .bool false, .bool false]) := by kernel_rfl
theorem zc171 : zCells Tryz.prog 171 [.str ⟨#[]⟩, .nils, .int .i64 0, .int .i64 0, .int .i64 0, .int .i64 0, .int .i64 0, .bool false, .bool false] := ⟨_, ze171, rfl⟩
theorem ze175 : (Tryz.prog.info? 175).bind (·.zero) = some (.nilFunc) := by kernel_rfl
theorem zc175 : zCells Tryz.prog 175 [.nilf] := ⟨_, ze175, rfl⟩
theorem ze177 : (Tryz.prog.info? 177).bind (·.zero) = some (.agg #[.nilFunc, .int .i64 0, .int .i64 0]) := by kernel_rfl
theorem zc177 : zCells Tryz.prog 177 [.nilf, .int .i64 0, .int .i64 0] := ⟨_, ze177, rfl⟩
theorem ze178 : (Tryz.prog.info? 178).bind (·.zero) = some (.agg #[.nilFunc, .int .i64 0, .int .i64 0, .nilFunc, .int .i64 0, .int .i64 0, .nilFunc, .int .i64 0, .int .i64 0, .nilFunc, .int .i64 0, .int .i64 0, .nilFunc, .int .i64 0, .int .i64 0]) := by kernel_rfl
theorem zc178 : zCells Tryz.prog 178 [.nilf, .int .i64 0, .int .i64 0, .nilf, .int .i64 0, .int .i64 0, .nilf, .int .i64 0, .int .i64 0, .nilf, .int .i64 0, .int .i64 0, .nilf, .int .i64 0, .int .i64 0] := ⟨_, ze178, rfl⟩
theorem ze183 : (Tryz.prog.info? 183).bind (·.zero) = some (.agg #[.int .i64 0, .int .i64 0, .int .i64 0]) := by kernel_rfl
theorem zc183 : zCells Tryz.prog 183 [.int .i64 0, .int .i64 0, .int .i64 0] := ⟨_, ze183, rfl⟩
theorem ze190 : (Tryz.prog.info? 190).bind (·.zero) = some (.agg #[.int .i64 0, .int .i64 0, .int .i64 0, .slice none 0 0, .slice none 0 0, .slice none 0 0, .slice none 0 0]) := by kernel_rfl
theorem zc190 : zCells Tryz.prog 190 [.int .i64 0, .int .i64 0, .int .i64 0, .nils, .nils, .nils, .nils] := ⟨_, ze190, rfl⟩
theorem ze191 : (Tryz.prog.info? 191).bind (·.zero) = some (.nilFunc) := by kernel_rfl
theorem zc191 : zCells Tryz.prog 191 [.nilf] := ⟨_, ze191, rfl⟩
theorem ze193 : (Tryz.prog.info? 193).bind (·.zero) = some (.agg #[.int .i64 0, .int .i64 0, .int .i64 0, .int .i64 0, .int .i64 0, .int .i64 0]) := by kernel_rfl
theorem zc193 : zCells Tryz.prog 193 [.int .i64 0, .int .i64 0, .int .i64 0, .int .i64 0, .int .i64 0, .int .i64 0] := ⟨_, ze193, rfl⟩
theorem ze194 : (Tryz.prog.info? 194).bind (·.zero) = some (.agg #[.int .i64 0, .int .i64 0, .int .i64 0, .int .i64 0]) := by kernel_rfl
theorem zc194 : zCells Tryz.prog 194 [.int .i64 0, .int .i64 0, .int .i64 0, .int .i64 0] := ⟨_, ze194, rfl⟩
theorem ze201 : (Tryz.prog.info? 201).bind (·.zero) = some (.agg #[.int .i64 0, .int .i64 0, .bool false]) := by kernel_rfl
theorem zc201 : zCells Tryz.prog 201 [.int .i64 0, .int .i64 0, .bool false] := ⟨_, ze201, rfl⟩
theorem ze209 : (Tryz.prog.info? 209).bind (·.zero) = some (.nilFunc) := by kernel_rfl
theorem zc209 : zCells Tryz.prog 209 [.nilf] := ⟨_, ze209, rfl⟩
theorem ze216 : (Tryz.prog.info? 216).bind (·.zero) = some (.agg #[.bool false, .bool false, .bool false]) := by kernel_rfl
theorem zc216 : zCells Tryz.prog 216 [.bool false, .bool false, .bool false] := ⟨_, ze216, rfl⟩
theorem ze217 : (Tryz.prog.info? 217).bind (·.zero) = some (.agg #[.bool false, .bool false, .bool false, .bool false, .bool false, .bool false, .bool false, .bool false, .bool false, .bool false, .bool false, .bool false, .bool false, .bool false, .bool false]) := by kernel_rfl
theorem zc217 : zCells Tryz.prog 217 [.bool false, .bool false, .bool false, .bool false, .bool false, .bool false, .bool false, .bool false, .bool false, .bool false, .bool false, .bool false, .bool false, .bool false, .bool false] := ⟨_, ze217, rfl⟩
theorem ze248 : (Tryz.prog.info? 248).bind (·.zero) = some (.int .u64 0) := by kernel_rfl
theorem zc248 : zCells Tryz.prog 248 [.int .u64 0] := ⟨_, ze248, rfl⟩
theorem ti3 : TyInfo Tryz.prog 3 (.int .i64 0) 1 8 := tyInfo_of (by kernel_rfl) rfl
theorem ti4 : TyInfo Tryz.prog 4 (.bool false) 1 1 := tyInfo_of (by kernel_rfl) rfl
theorem ti25 : TyInfo Tryz.prog 25 (.slice none 0 0) 1 24 := tyInfo_of (by kernel_rfl) rfl
theorem ti49 : TyInfo Tryz.prog 49 (.agg #[.int .i64 0, .int .i64 0, .int .i64 0, .int .i64 0, .bool false, .int .i64 0, .bool false, .bool false, .int .i64 0, .int .i64 0, .int .i64 0, .int .i64 0, .bool false, .int .i64 0, .int .i64 0, .int .i64 0, .int .i64 0]) 17 128 := tyInfo_of (by kernel_rfl) rfl
theorem ti51 : TyInfo Tryz.prog 51 (.agg #[.int .i64 0, .int .i64 0]) 2 16 := tyInfo_of (by kernel_rfl) rfl
theorem ti53 : TyInfo Tryz.prog 53 (.agg #[.int .i64 0, .int .i64 0, .bool false, .bool false, .bool false, .int .i64 0, .int .i64 0, .int .i64 0, .int .i64 0, .int .i64 0, .int .i64 0, .int .i64 0]) 12 80 := tyInfo_of (by kernel_rfl) rfl
theorem ti116 : TyInfo Tryz.prog 116 (.agg #[.int .i64 0, .int .i64 0, .int .i64 0, .int .i64 0, .bool false, .int .i64 0, .int .i64 0]) 7 56 := tyInfo_of (by kernel_rfl) rfl
theorem ti183 : TyInfo Tryz.prog 183 (.agg #[.int .i64 0, .int .i64 0, .int .i64 0]) 3 24 := tyInfo_of (by kernel_rfl) rfl
theorem sl24 : slOk Tryz.prog 24 49 = true := by kernel_rfl
theorem sl25 : slOk Tryz.prog 25 3 = true := by kernel_rfl
theorem sl29 : slOk Tryz.prog 29 53 = true := by kernel_rfl
theorem sl70 : slOk Tryz.prog 70 51 = true := by kernel_rfl
theorem sl82 : slOk Tryz.prog 82 116 = true := by kernel_rfl
theorem sl89 : slOk Tryz.prog 89 4 = true := by kernel_rfl
theorem sl107 : slOk Tryz.prog 107 25 = true := by kernel_rfl
theorem sl180 : slOk Tryz.prog 180 183 = true := by kernel_rfl
theorem fo23_0 : fldOk Tryz.prog 23 0 0 = true := by kernel_rfl
theorem fo23_1 : fldOk Tryz.prog 23 1 1 = true := by kernel_rfl
theorem fo23_2 : fldOk Tryz.prog 23 2 2 = true := by kernel_rfl
theorem fo23_3 : fldOk Tryz.prog 23 3 3 = true := by kernel_rfl
theorem fo49_0 : fldOk Tryz.prog 49 0 0 = true := by kernel_rfl
theorem fo49_1 : fldOk Tryz.prog 49 1 1 = true := by kernel_rfl
theorem fo49_4 : fldOk Tryz.prog 49 4 4 = true := by kernel_rfl
theorem fo51_0 : fldOk Tryz.prog 51 0 0 = true := by kernel_rfl
theorem fo51_1 : fldOk Tryz.prog 51 1 1 = true := by kernel_rfl
theorem fo53_0 : fldOk Tryz.prog 53 0 0 = true := by kernel_rfl
theorem fo53_1 : fldOk Tryz.prog 53 1 1 = true := by kernel_rfl
theorem fo53_2 : fldOk Tryz.prog 53 2 2 = true := by kernel_rfl
theorem fo53_3 : fldOk Tryz.prog 53 3 3 = true := by kernel_rfl
theorem fo53_4 : fldOk Tryz.prog 53 4 4 = true := by kernel_rfl
theorem fo53_5 : fldOk Tryz.prog 53 5 5 = true := by kernel_rfl
theorem fo53_6 : fldOk Tryz.prog 53 6 6 = true := by kernel_rfl
theorem fo53_7 : fldOk Tryz.prog 53 7 8 = true := by kernel_rfl
theorem fo53_8 : fldOk Tryz.prog 53 8 10 = true := by kernel_rfl
theorem fo72_0 : fldOk Tryz.prog 72 0 0 = true := by kernel_rfl
theorem fo72_1 : fldOk Tryz.prog 72 1 1 = true := by kernel_rfl
theorem fo72_2 : fldOk Tryz.prog 72 2 2 = true := by kernel_rfl
theorem fo72_3 : fldOk Tryz.prog 72 3 3 = true := by kernel_rfl
theorem fo116_0 : fldOk Tryz.prog 116 0 0 = true := by kernel_rfl
theorem fo116_1 : fldOk Tryz.prog 116 1 1 = true := by kernel_rfl
theorem fo116_2 : fldOk Tryz.prog 116 2 2 = true := by kernel_rfl
theorem fo116_3 : fldOk Tryz.prog 116 3 3 = true := by kernel_rfl
theorem fo116_4 : fldOk Tryz.prog 116 4 4 = true := by kernel_rfl
theorem fo116_5 : fldOk Tryz.prog 116 5 5 = true := by kernel_rfl
theorem fo124_0 : fldOk Tryz.prog 124 0 0 = true := by kernel_rfl
theorem fo128_0 : fldOk Tryz.prog 128 0 0 = true := by kernel_rfl
theorem fo128_1 : fldOk Tryz.prog 128 1 4 = true := by kernel_rfl
theorem fo128_2 : fldOk Tryz.prog 128 2 5 = true := by kernel_rfl
theorem fo128_3 : fldOk Tryz.prog 128 3 6 = true := by kernel_rfl
theorem fo138_0 : fldOk Tryz.prog 138 0 0 = true := by kernel_rfl
theorem fo147_0 : fldOk Tryz.prog 147 0 0 = true := by kernel_rfl
theorem fo147_1 : fldOk Tryz.prog 147 1 1 = true := by kernel_rfl
theorem fo147_2 : fldOk Tryz.prog 147 2 2 = true := by kernel_rfl
theorem fo147_3 : fldOk Tryz.prog 147 3 4 = true := by kernel_rfl
theorem fo169_1 : fldOk Tryz.prog 169 1 1 = true := by kernel_rfl
theorem fo171_0 : fldOk Tryz.prog 171 0 0 = true := by kernel_rfl
theorem fo171_2 : fldOk Tryz.prog 171 2 6 = true := by kernel_rfl
theorem fo171_4 : fldOk Tryz.prog 171 4 8 = true := by kernel_rfl
theorem fo177_0 : fldOk Tryz.prog 177 0 0 = true := by kernel_rfl
theorem fo177_1 : fldOk Tryz.prog 177 1 1 = true := by kernel_rfl
theorem fo177_2 : fldOk Tryz.prog 177 2 2 = true := by kernel_rfl
theorem fo183_0 : fldOk Tryz.prog 183 0 0 = true := by kernel_rfl
theorem fo183_1 : fldOk Tryz.prog 183 1 1 = true := by kernel_rfl
theorem fo183_2 : fldOk Tryz.prog 183 2 2 = true := by kernel_rfl
theorem fo190_0 : fldOk Tryz.prog 190 0 0 = true := by kernel_rfl
theorem fo190_1 : fldOk Tryz.prog 190 1 2 = true := by kernel_rfl
theorem fo190_2 : fldOk Tryz.prog 190 2 3 = true := by kernel_rfl
theorem fo190_3 : fldOk Tryz.prog 190 3 4 = true := by kernel_rfl
theorem fo190_4 : fldOk Tryz.prog 190 4 5 = true := by kernel_rfl
theorem fo190_5 : fldOk Tryz.prog 190 5 6 = true := by kernel_rfl
theorem fo201_0 : fldOk Tryz.prog 201 0 0 = true := by kernel_rfl
theorem fo201_1 : fldOk Tryz.prog 201 1 1 = true := by kernel_rfl
theorem fo201_2 : fldOk Tryz.prog 201 2 2 = true := by kernel_rfl
theorem pl23 : places Tryz.prog 23 = some [(0, 1), (1, 1), (2, 1), (3, 1)] := by kernel_rfl
theorem ia23 : infoAll Tryz.prog 23 = true := by kernel_rfl
theorem pl49 : places Tryz.prog 49 = some [(0, 1), (1, 1), (2, 1), (3, 1), (4, 1), (5, 1), (6, 1), (7, 1), (8, 4), (12, 1), (13, 1), (14, 1), (15, 2)] := by kernel_rfl
theorem ia49 : infoAll Tryz.prog 49 = true := by kernel_rfl
theorem pl51 : places Tryz.prog 51 = some [(0, 1), (1, 1)] := by kernel_rfl
theorem ia51 : infoAll Tryz.prog 51 = true := by kernel_rfl
theorem pl53 : places Tryz.prog 53 = some [(0, 1), (1, 1), (2, 1), (3, 1), (4, 1), (5, 1), (6, 2), (8, 2), (10, 2)] := by kernel_rfl
theorem ia53 : infoAll Tryz.prog 53 = true := by kernel_rfl
theorem pl72 : places Tryz.prog 72 = some [(0, 1), (1, 1), (2, 1), (3, 1)] := by kernel_rfl
theorem ia72 : infoAll Tryz.prog 72 = true := by kernel_rfl
theorem pl116 : places Tryz.prog 116 = some [(0, 1), (1, 1), (2, 1), (3, 1), (4, 1), (5, 2)] := by kernel_rfl
theorem ia116 : infoAll Tryz.prog 116 = true := by kernel_rfl
theorem pl124 : places Tryz.prog 124 = some [(0, 1)] := by kernel_rfl
theorem ia124 : infoAll Tryz.prog 124 = true := by kernel_rfl
theorem pl128 : places Tryz.prog 128 = some [(0, 4), (4, 1), (5, 1), (6, 1)] := by kernel_rfl
theorem ia128 : infoAll Tryz.prog 128 = true := by kernel_rfl
theorem pl138 : places Tryz.prog 138 = some [(0, 1)] := by kernel_rfl
theorem ia138 : infoAll Tryz.prog 138 = true := by kernel_rfl
theorem pl147 : places Tryz.prog 147 = some [(0, 1), (1, 1), (2, 2), (4, 1)] := by kernel_rfl
theorem ia147 : infoAll Tryz.prog 147 = true := by kernel_rfl
theorem pl171 : places Tryz.prog 171 = some [(0, 2), (2, 4), (6, 1), (7, 1), (8, 1)] := by kernel_rfl
theorem ia171 : infoAll Tryz.prog 171 = true := by kernel_rfl
theorem pl177 : places Tryz.prog 177 = some [(0, 1), (1, 1), (2, 1)] := by kernel_rfl
theorem ia177 : infoAll Tryz.prog 177 = true := by kernel_rfl
theorem pl183 : places Tryz.prog 183 = some [(0, 1), (1, 1), (2, 1)] := by kernel_rfl
theorem ia183 : infoAll Tryz.prog 183 = true := by kernel_rfl
theorem pl190 : places Tryz.prog 190 = some [(0, 2), (2, 1), (3, 1), (4, 1), (5, 1), (6, 1)] := by kernel_rfl
theorem ia190 : infoAll Tryz.prog 190 = true := by kernel_rfl
theorem pl201 : places Tryz.prog 201 = some [(0, 1), (1, 1), (2, 1)] := by kernel_rfl
theorem ia201 : infoAll Tryz.prog 201 = true := by kernel_rfl
theorem ar178 : arrOk Tryz.prog 178 5 177 = true := by kernel_rfl
theorem ar193 : arrOk Tryz.prog 193 3 51 = true := by kernel_rfl
theorem ar194 : arrOk Tryz.prog 194 4 3 = true := by kernel_rfl
theorem ar216 : arrOk Tryz.prog 216 3 4 = true := by kernel_rfl
theorem ar217 : arrOk Tryz.prog 217 5 216 = true := by kernel_rfl
theorem eqo3 : (eqOk Tryz.prog 5 3 && decide (5 ≤ 10000)) = true := by kernel_rfl
theorem fl3 : flat Tryz.prog 5 3 = [1] := by kernel_rfl
theorem eqo4 : (eqOk Tryz.prog 5 4 && decide (5 ≤ 10000)) = true := by kernel_rfl
theorem fl4 : flat Tryz.prog 5 4 = [2] := by kernel_rfl
theorem eqo8 : (eqOk Tryz.prog 5 8 && decide (5 ≤ 10000)) = true := by kernel_rfl
theorem fl8 : flat Tryz.prog 5 8 = [1, 1, 2, 3] := by kernel_rfl
theorem eqo23 : (eqOk Tryz.prog 5 23 && decide (5 ≤ 10000)) = true := by kernel_rfl
theorem fl23 : flat Tryz.prog 5 23 = [1, 1, 1, 1] := by kernel_rfl
theorem eqo47 : (eqOk Tryz.prog 5 47 && decide (5 ≤ 10000)) = true := by kernel_rfl
theorem fl47 : flat Tryz.prog 5 47 = [1, 1] := by kernel_rfl
theorem eqo49 : (eqOk Tryz.prog 5 49 && decide (5 ≤ 10000)) = true := by kernel_rfl
theorem fl49 : flat Tryz.prog 5 49 = [1, 1, 1, 1, 2, 1, 2, 2, 1, 1, 1, 1, 2, 1, 1, 1, 1] := by kernel_rfl
theorem eqo51 : (eqOk Tryz.prog 5 51 && decide (5 ≤ 10000)) = true := by kernel_rfl
theorem fl51 : flat Tryz.prog 5 51 = [1, 1] := by kernel_rfl
theorem eqo53 : (eqOk Tryz.prog 5 53 && decide (5 ≤ 10000)) = true := by kernel_rfl
theorem fl53 : flat Tryz.prog 5 53 = [1, 1, 2, 2, 2, 1, 1, 1, 1, 1, 1, 1] := by kernel_rfl
theorem eqo116 : (eqOk Tryz.prog 5 116 && decide (5 ≤ 10000)) = true := by kernel_rfl
theorem fl116 : flat Tryz.prog 5 116 = [1, 1, 1, 1, 2, 1, 1] := by kernel_rfl
theorem eqo124 : (eqOk Tryz.prog 5 124 && decide (5 ≤ 10000)) = true := by kernel_rfl
theorem fl124 : flat Tryz.prog 5 124 = [1] := by kernel_rfl
theorem eqo183 : (eqOk Tryz.prog 5 183 && decide (5 ≤ 10000)) = true := by kernel_rfl
theorem fl183 : flat Tryz.prog 5 183 = [1, 1, 1] := by kernel_rfl
theorem eqo201 : (eqOk Tryz.prog 5 201 && decide (5 ≤ 10000)) = true := by kernel_rfl
theorem fl201 : flat Tryz.prog 5 201 = [1, 1, 2] := by kernel_rfl
theorem eq3 : (eqOk Tryz.prog 5 3 && decide (5 ≤ 10000)) = true := eqo3
theorem eg3 : Tryz.prog.eqGuardType Tryz.prog.depth 3 = false := by kernel_rfl
theorem eq4 : (eqOk Tryz.prog 5 4 && decide (5 ≤ 10000)) = true := eqo4
theorem eg4 : Tryz.prog.eqGuardType Tryz.prog.depth 4 = false := by kernel_rfl
theorem eq23 : (eqOk Tryz.prog 5 23 && decide (5 ≤ 10000)) = true := eqo23
theorem eg23 : Tryz.prog.eqGuardType Tryz.prog.depth 23 = false := by kernel_rfl
theorem eq49 : (eqOk Tryz.prog 5 49 && decide (5 ≤ 10000)) = true := eqo49
theorem eg49 : Tryz.prog.eqGuardType Tryz.prog.depth 49 = false := by kernel_rfl
theorem eq51 : (eqOk Tryz.prog 5 51 && decide (5 ≤ 10000)) = true := eqo51
theorem eg51 : Tryz.prog.eqGuardType Tryz.prog.depth 51 = false := by kernel_rfl
theorem eq53 : (eqOk Tryz.prog 5 53 && decide (5 ≤ 10000)) = true := eqo53
theorem eg53 : Tryz.prog.eqGuardType Tryz.prog.depth 53 = false := by kernel_rfl
theorem mo : Tryz.prog.follows .mixedOrders = true := by kernel_rfl
end Go.Rse
