/-
  zbP facts on the types, fields and functions of the translation: printed by program (genty.py).
-/
import Derived.Test.YtbilklnipfabpaaGreatDoorProg
import Derived.Test.YtbilklnipfabpaaGreatDoorKLogA
import Derived.KernelRfl
namespace Go.Rse
open Go Go.Proofs
theorem ty3 : tyOk Tryz.prog 3 false 1 = true := by kernel_rfl
theorem ty4 : tyOk Tryz.prog 4 false 1 = true := by kernel_rfl
theorem ty22 : tyOk Tryz.prog 22 false 1 = true := by kernel_rfl
theorem ty24 : tyOk Tryz.prog 24 true 4 = true := by kernel_rfl
theorem ty26 : tyOk Tryz.prog 26 false 1 = true := by kernel_rfl
theorem ty29 : tyOk Tryz.prog 29 false 1 = true := by kernel_rfl
theorem ty33 : tyOk Tryz.prog 33 false 1 = true := by kernel_rfl
theorem ty35 : tyOk Tryz.prog 35 true 4 = true := by kernel_rfl
theorem ty40 : tyOk Tryz.prog 40 true 17 = true := by kernel_rfl
theorem ty46 : tyOk Tryz.prog 46 true 2 = true := by kernel_rfl
theorem ty56 : tyOk Tryz.prog 56 false 1 = true := by kernel_rfl
theorem ty89 : tyOk Tryz.prog 89 false 1 = true := by kernel_rfl
theorem ty95 : tyOk Tryz.prog 95 true 12 = true := by kernel_rfl
theorem ty97 : tyOk Tryz.prog 97 false 1 = true := by kernel_rfl
theorem zrd : tyOk Tryz.prog 104 true 2 = true := by kernel_rfl
theorem zj0 : tyOk Tryz.prog 124 true 3 = true := by kernel_rfl
theorem zre : tyOk Tryz.prog 125 false 1 = true := by kernel_rfl
theorem zZ : tyOk Tryz.prog 138 false 1 = true := by kernel_rfl
theorem zrf : tyOk Tryz.prog 158 true 1 = true := by kernel_rfl
theorem zmn : tyOk Tryz.prog 162 true 7 = true := by kernel_rfl
theorem zrg : tyOk Tryz.prog 163 false 1 = true := by kernel_rfl
theorem zrh : tyOk Tryz.prog 167 false 1 = true := by kernel_rfl
theorem zol : tyOk Tryz.prog 190 true 4 = true := by kernel_rfl
theorem zri : tyOk Tryz.prog 194 false 1 = true := by kernel_rfl
theorem zrj : tyOk Tryz.prog 196 false 1 = true := by kernel_rfl
theorem zrk : tyOk Tryz.prog 215 true 3 = true := by kernel_rfl
theorem zrl : tyOk Tryz.prog 256 true 3 = true := by kernel_rfl
theorem zrm : tyOk Tryz.prog 258 true 15 = true := by kernel_rfl
theorem ze3 : (Tryz.prog.info? 3).bind (·.zero) = some (.int .i64 0) := by kernel_rfl
theorem zc3 : zu Tryz.prog 3 [.int .i64 0] := ⟨_, ze3, rfl⟩
theorem ze4 : (Tryz.prog.info? 4).bind (·.zero) = some (.bool false) := by kernel_rfl
theorem zc4 : zu Tryz.prog 4 [.bool false] := ⟨_, ze4, rfl⟩
theorem ze22 : (Tryz.prog.info? 22).bind (·.zero) = some (.slice none 0 0) := by kernel_rfl
theorem zc22 : zu Tryz.prog 22 [.nils] := ⟨_, ze22, rfl⟩
theorem ze24 : (Tryz.prog.info? 24).bind (·.zero) = some (.agg #[.int .i64 0, .int .i64 0, .int .i64 0, .int .i64 0]) := by kernel_rfl
theorem zc24 : zu Tryz.prog 24 [.int .i64 0, .int .i64 0, .int .i64 0, .int .i64 0] := ⟨_, ze24, rfl⟩
theorem ze29 : (Tryz.prog.info? 29).bind (·.zero) = some (.int .i64 0) := by kernel_rfl
theorem zc29 : zu Tryz.prog 29 [.int .i64 0] := ⟨_, ze29, rfl⟩
theorem ze35 : (Tryz.prog.info? 35).bind (·.zero) = some (.agg #[.slice none 0 0, .slice none 0 0, .slice none 0 0, .slice none 0 0]) := by kernel_rfl
theorem zc35 : zu Tryz.prog 35 [.nils, .nils, .nils, .nils] := ⟨_, ze35, rfl⟩
theorem ze40 : (Tryz.prog.info? 40).bind (·.zero) = some (.agg #[.int .i64 0, .int .i64 0, .int .i64 0, .int .i64 0, .bool false, .int .i64 0, .bool false, .bool false, .int .i64 0, .int .i64 0, .int .i64 0, .int .i64 0, .bool false, .int .i64 0, .int .i64 0, .int .i64 0, .int .i64 0]) := by kernel_rfl
theorem zc40 : zu Tryz.prog 40 [.int .i64 0, .int .i64 0, .int .i64 0, .int .i64 0, .bool false, .int .i64 0, .bool false, .bool false, .int .i64 0, .int .i64 0, .int .i64 0, .int .i64 0, .bool false, .int .i64 0, .int .i64 0, .int .i64 0, .int .i64 0] := ⟨_, ze40, rfl⟩
theorem ze46 : (Tryz.prog.info? 46).bind (·.zero) = some (.agg #[.int .i64 0, .int .i64 0]) := by kernel_rfl
theorem zc46 : zu Tryz.prog 46 [.int .i64 0, .int .i64 0] := ⟨_, ze46, rfl⟩
theorem ze56 : (Tryz.prog.info? 56).bind (·.zero) = some (.nilFunc) := by kernel_rfl
theorem zc56 : zu Tryz.prog 56 [.nilf] := ⟨_, ze56, rfl⟩
theorem ze95 : (Tryz.prog.info? 95).bind (·.zero) = some (.agg #[.int .i64 0, .int .i64 0, .bool false, .bool false, .bool false, .int .i64 0, .int .i64 0, .int .i64 0, .int .i64 0, .int .i64 0, .int .i64 0, .int .i64 0]) := by kernel_rfl
theorem zc95 : zu Tryz.prog 95 [.int .i64 0, .int .i64 0, .bool false, .bool false, .bool false, .int .i64 0, .int .i64 0, .int .i64 0, .int .i64 0, .int .i64 0, .int .i64 0, .int .i64 0] := ⟨_, ze95, rfl⟩
theorem ze97 : (Tryz.prog.info? 97).bind (·.zero) = some (.slice none 0 0) := by kernel_rfl
theorem zc97 : zu Tryz.prog 97 [.nils] := ⟨_, ze97, rfl⟩
theorem zom : (Tryz.prog.info? 104).bind (·.zero) = some (.agg #[.int .i64 0, .int .i64 0]) := by kernel_rfl
theorem zrn : zu Tryz.prog 104 [.int .i64 0, .int .i64 0] := ⟨_, zom, rfl⟩
theorem zon : (Tryz.prog.info? 124).bind (·.zero) = some (.agg #[.slice none 0 0, .slice none 0 0, .slice none 0 0]) := by kernel_rfl
theorem zro : zu Tryz.prog 124 [.nils, .nils, .nils] := ⟨_, zon, rfl⟩
theorem zrp : (Tryz.prog.info? 138).bind (·.zero) = some (.slice none 0 0) := by kernel_rfl
theorem zrq : zu Tryz.prog 138 [.nils] := ⟨_, zrp, rfl⟩
theorem zrr : (Tryz.prog.info? 158).bind (·.zero) = some (.agg #[.slice none 0 0]) := by kernel_rfl
theorem zrs : zu Tryz.prog 158 [.nils] := ⟨_, zrr, rfl⟩
theorem zmo : (Tryz.prog.info? 162).bind (·.zero) = some (.agg #[.int .i64 0, .int .i64 0, .int .i64 0, .int .i64 0, .bool false, .int .i64 0, .int .i64 0]) := by kernel_rfl
theorem zrt : zu Tryz.prog 162 [.int .i64 0, .int .i64 0, .int .i64 0, .int .i64 0, .bool false, .int .i64 0, .int .i64 0] := ⟨_, zmo, rfl⟩
theorem zru : (Tryz.prog.info? 169).bind (·.zero) = some (.agg #[.slice none 0 0, .int .i64 0, .int .i64 0, .int .i64 0, .map none]) := by kernel_rfl
theorem zrv : (Tryz.prog.info? 190).bind (·.zero) = some (.agg #[.int .i64 0, .int .i64 0, .int .i64 0, .int .i64 0]) := by kernel_rfl
theorem zrw : zu Tryz.prog 190 [.int .i64 0, .int .i64 0, .int .i64 0, .int .i64 0] := ⟨_, zrv, rfl⟩
theorem zrx : (Tryz.prog.info? 207).bind (·.zero) = some (.agg #[.int .i64 0, .int .i64 0, .int .i64 0, .int .i64 0, .int .i64 0, .int .i64 0]) := by kernel_rfl
theorem zry : zu Tryz.prog 207 [.int .i64 0, .int .i64 0, .int .i64 0, .int .i64 0, .int .i64 0, .int .i64 0] := ⟨_, zrx, rfl⟩
theorem zrz : (Tryz.prog.info? 215).bind (·.zero) = some (.agg #[.int .i64 0, .int .i64 0, .bool false]) := by kernel_rfl
theorem zrA : zu Tryz.prog 215 [.int .i64 0, .int .i64 0, .bool false] := ⟨_, zrz, rfl⟩
theorem zrB : (Tryz.prog.info? 256).bind (·.zero) = some (.agg #[.bool false, .bool false, .bool false]) := by kernel_rfl
theorem zrC : zu Tryz.prog 256 [.bool false, .bool false, .bool false] := ⟨_, zrB, rfl⟩
theorem zrD : (Tryz.prog.info? 258).bind (·.zero) = some (.agg #[.bool false, .bool false, .bool false, .bool false, .bool false, .bool false, .bool false, .bool false, .bool false, .bool false, .bool false, .bool false, .bool false, .bool false, .bool false]) := by kernel_rfl
theorem zoo : zu Tryz.prog 258 [.bool false, .bool false, .bool false, .bool false, .bool false, .bool false, .bool false, .bool false, .bool false, .bool false, .bool false, .bool false, .bool false, .bool false, .bool false] := ⟨_, zrD, rfl⟩
theorem ti3 : zP Tryz.prog 3 (.int .i64 0) 1 8 := zR (by kernel_rfl) rfl
theorem ti4 : zP Tryz.prog 4 (.bool false) 1 1 := zR (by kernel_rfl) rfl
theorem ti22 : zP Tryz.prog 22 (.slice none 0 0) 1 24 := zR (by kernel_rfl) rfl
theorem ti35 : zP Tryz.prog 35 (.agg #[.slice none 0 0, .slice none 0 0, .slice none 0 0, .slice none 0 0]) 4 96 := zR (by kernel_rfl) rfl
theorem ti40 : zP Tryz.prog 40 (.agg #[.int .i64 0, .int .i64 0, .int .i64 0, .int .i64 0, .bool false, .int .i64 0, .bool false, .bool false, .int .i64 0, .int .i64 0, .int .i64 0, .int .i64 0, .bool false, .int .i64 0, .int .i64 0, .int .i64 0, .int .i64 0]) 17 128 := zR (by kernel_rfl) rfl
theorem ti46 : zP Tryz.prog 46 (.agg #[.int .i64 0, .int .i64 0]) 2 16 := zR (by kernel_rfl) rfl
theorem ti95 : zP Tryz.prog 95 (.agg #[.int .i64 0, .int .i64 0, .bool false, .bool false, .bool false, .int .i64 0, .int .i64 0, .int .i64 0, .int .i64 0, .int .i64 0, .int .i64 0, .int .i64 0]) 12 80 := zR (by kernel_rfl) rfl
theorem zrE : zP Tryz.prog 104 (.agg #[.int .i64 0, .int .i64 0]) 2 16 := zR (by kernel_rfl) rfl
theorem zrF : zP Tryz.prog 124 (.agg #[.slice none 0 0, .slice none 0 0, .slice none 0 0]) 3 72 := zR (by kernel_rfl) rfl
theorem zrG : zP Tryz.prog 162 (.agg #[.int .i64 0, .int .i64 0, .int .i64 0, .int .i64 0, .bool false, .int .i64 0, .int .i64 0]) 7 56 := zR (by kernel_rfl) rfl
theorem sl22 : slOk Tryz.prog 22 3 = true := by kernel_rfl
theorem sl26 : slOk Tryz.prog 26 40 = true := by kernel_rfl
theorem sl28 : slOk Tryz.prog 28 35 = true := by kernel_rfl
theorem sl33 : slOk Tryz.prog 33 46 = true := by kernel_rfl
theorem sl89 : slOk Tryz.prog 89 95 = true := by kernel_rfl
theorem sl97 : slOk Tryz.prog 97 162 = true := by kernel_rfl
theorem zrH : slOk Tryz.prog 102 104 = true := by kernel_rfl
theorem zrI : slOk Tryz.prog 125 124 = true := by kernel_rfl
theorem zax : slOk Tryz.prog 138 4 = true := by kernel_rfl
theorem zop : slOk Tryz.prog 196 22 = true := by kernel_rfl
theorem zpC : zg Tryz.prog 24 0 0 = true := by kernel_rfl
theorem zpD : zg Tryz.prog 24 1 1 = true := by kernel_rfl
theorem zpE : zg Tryz.prog 24 2 2 = true := by kernel_rfl
theorem zpF : zg Tryz.prog 24 3 3 = true := by kernel_rfl
theorem zpG : zg Tryz.prog 35 0 0 = true := by kernel_rfl
theorem zpH : zg Tryz.prog 35 1 1 = true := by kernel_rfl
theorem zpI : zg Tryz.prog 35 2 2 = true := by kernel_rfl
theorem zpJ : zg Tryz.prog 35 3 3 = true := by kernel_rfl
theorem zpK : zg Tryz.prog 40 0 0 = true := by kernel_rfl
theorem zpL : zg Tryz.prog 40 1 1 = true := by kernel_rfl
theorem zpM : zg Tryz.prog 40 4 4 = true := by kernel_rfl
theorem zpN : zg Tryz.prog 46 0 0 = true := by kernel_rfl
theorem zpO : zg Tryz.prog 46 1 1 = true := by kernel_rfl
theorem zpP : zg Tryz.prog 95 1 1 = true := by kernel_rfl
theorem zpQ : zg Tryz.prog 95 2 2 = true := by kernel_rfl
theorem zpR : zg Tryz.prog 95 3 3 = true := by kernel_rfl
theorem zpS : zg Tryz.prog 95 4 4 = true := by kernel_rfl
theorem zpT : zg Tryz.prog 95 5 5 = true := by kernel_rfl
theorem zpU : zg Tryz.prog 95 6 6 = true := by kernel_rfl
theorem zpV : zg Tryz.prog 95 7 8 = true := by kernel_rfl
theorem zpW : zg Tryz.prog 95 8 10 = true := by kernel_rfl
theorem znz : zg Tryz.prog 104 0 0 = true := by kernel_rfl
theorem znA : zg Tryz.prog 124 0 0 = true := by kernel_rfl
theorem znB : zg Tryz.prog 124 1 1 = true := by kernel_rfl
theorem znC : zg Tryz.prog 124 2 2 = true := by kernel_rfl
theorem znD : zg Tryz.prog 158 0 0 = true := by kernel_rfl
theorem znE : zg Tryz.prog 162 0 0 = true := by kernel_rfl
theorem znF : zg Tryz.prog 162 1 1 = true := by kernel_rfl
theorem znG : zg Tryz.prog 162 2 2 = true := by kernel_rfl
theorem znH : zg Tryz.prog 162 3 3 = true := by kernel_rfl
theorem znI : zg Tryz.prog 162 4 4 = true := by kernel_rfl
theorem znJ : zg Tryz.prog 162 5 5 = true := by kernel_rfl
theorem znK : zg Tryz.prog 169 0 0 = true := by kernel_rfl
theorem znL : zg Tryz.prog 169 1 1 = true := by kernel_rfl
theorem znM : zg Tryz.prog 169 2 2 = true := by kernel_rfl
theorem znN : zg Tryz.prog 169 3 4 = true := by kernel_rfl
theorem znO : zg Tryz.prog 215 0 0 = true := by kernel_rfl
theorem znP : zg Tryz.prog 215 1 1 = true := by kernel_rfl
theorem znQ : zg Tryz.prog 215 2 2 = true := by kernel_rfl
theorem pl24 : zaK Tryz.prog 24 = some [(0, 1), (1, 1), (2, 1), (3, 1)] := by kernel_rfl
theorem ia24 : zW Tryz.prog 24 = true := by kernel_rfl
theorem pl35 : zaK Tryz.prog 35 = some [(0, 1), (1, 1), (2, 1), (3, 1)] := by kernel_rfl
theorem ia35 : zW Tryz.prog 35 = true := by kernel_rfl
theorem pl40 : zaK Tryz.prog 40 = some [(0, 1), (1, 1), (2, 1), (3, 1), (4, 1), (5, 1), (6, 1), (7, 1), (8, 4), (12, 1), (13, 1), (14, 1), (15, 2)] := by kernel_rfl
theorem ia40 : zW Tryz.prog 40 = true := by kernel_rfl
theorem pl46 : zaK Tryz.prog 46 = some [(0, 1), (1, 1)] := by kernel_rfl
theorem ia46 : zW Tryz.prog 46 = true := by kernel_rfl
theorem pl95 : zaK Tryz.prog 95 = some [(0, 1), (1, 1), (2, 1), (3, 1), (4, 1), (5, 1), (6, 2), (8, 2), (10, 2)] := by kernel_rfl
theorem ia95 : zW Tryz.prog 95 = true := by kernel_rfl
theorem zrJ : zaK Tryz.prog 104 = some [(0, 2)] := by kernel_rfl
theorem zrK : zW Tryz.prog 104 = true := by kernel_rfl
theorem zrL : zaK Tryz.prog 124 = some [(0, 1), (1, 1), (2, 1)] := by kernel_rfl
theorem zrM : zW Tryz.prog 124 = true := by kernel_rfl
theorem zrN : zaK Tryz.prog 158 = some [(0, 1)] := by kernel_rfl
theorem zrO : zW Tryz.prog 158 = true := by kernel_rfl
theorem zrP : zaK Tryz.prog 162 = some [(0, 1), (1, 1), (2, 1), (3, 1), (4, 1), (5, 2)] := by kernel_rfl
theorem zrQ : zW Tryz.prog 162 = true := by kernel_rfl
theorem zrR : zaK Tryz.prog 169 = some [(0, 1), (1, 1), (2, 2), (4, 1)] := by kernel_rfl
theorem zrS : zW Tryz.prog 169 = true := by kernel_rfl
theorem zrT : zaK Tryz.prog 215 = some [(0, 1), (1, 1), (2, 1)] := by kernel_rfl
theorem zrU : zW Tryz.prog 215 = true := by kernel_rfl
theorem zmp : zcO Tryz.prog 190 4 3 = true := by kernel_rfl
theorem zrV : zcO Tryz.prog 207 3 46 = true := by kernel_rfl
theorem zrW : zcO Tryz.prog 256 3 4 = true := by kernel_rfl
theorem zrX : zcO Tryz.prog 258 5 256 = true := by kernel_rfl
theorem zrY : (eqOk Tryz.prog 5 46 && decide (5 <= 10000)) = true := by kernel_rfl
theorem fl46 : flat Tryz.prog 5 46 = [1, 1] := by kernel_rfl
theorem eq46 : (eqOk Tryz.prog 5 46 && decide (5 <= 10000)) = true := zrY
theorem eg46 : Tryz.prog.eqGuardType Tryz.prog.depth 46 = false := by kernel_rfl
theorem mo : Tryz.prog.follows .mixedOrders = true := by kernel_rfl
end Go.Rse
