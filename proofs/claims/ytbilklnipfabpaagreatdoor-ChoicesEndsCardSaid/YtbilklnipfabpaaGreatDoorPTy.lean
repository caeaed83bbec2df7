/-
  zbT facts on the types, fields and functions of the translation: printed by program (genty.py).
-/
import Derived.Test.YtbilklnipfabpaaGreatDoorProg
import Derived.Test.YtbilklnipfabpaaGreatDoorPLogA
import Derived.KernelRfl
namespace Go.Rse
open Go Go.Proofs
theorem ty3 : tyOk Tryz.prog 3 false 1 = true := by kernel_rfl
theorem ty4 : tyOk Tryz.prog 4 false 1 = true := by kernel_rfl
theorem ty22 : tyOk Tryz.prog 22 false 1 = true := by kernel_rfl
theorem ty24 : tyOk Tryz.prog 24 true 4 = true := by kernel_rfl
theorem ty26 : tyOk Tryz.prog 26 false 1 = true := by kernel_rfl
theorem ty29 : tyOk Tryz.prog 29 false 1 = true := by kernel_rfl
theorem ty33 : tyOk Tryz.prog 33 false 1 = true := by kernel_rfl
theorem ty35 : tyOk Tryz.prog 35 true 4 = true := by kernel_rfl
theorem ty40 : tyOk Tryz.prog 40 true 17 = true := by kernel_rfl
theorem ty46 : tyOk Tryz.prog 46 true 2 = true := by kernel_rfl
theorem ty56 : tyOk Tryz.prog 56 false 1 = true := by kernel_rfl
theorem ty89 : tyOk Tryz.prog 89 false 1 = true := by kernel_rfl
theorem ty95 : tyOk Tryz.prog 95 true 12 = true := by kernel_rfl
theorem ty97 : tyOk Tryz.prog 97 false 1 = true := by kernel_rfl
theorem ztn : tyOk Tryz.prog 104 true 2 = true := by kernel_rfl
theorem zlb : tyOk Tryz.prog 124 true 3 = true := by kernel_rfl
theorem zto : tyOk Tryz.prog 125 false 1 = true := by kernel_rfl
theorem z7 : tyOk Tryz.prog 138 false 1 = true := by kernel_rfl
theorem ztp : tyOk Tryz.prog 158 true 1 = true := by kernel_rfl
theorem znI : tyOk Tryz.prog 162 true 7 = true := by kernel_rfl
theorem ztq : tyOk Tryz.prog 163 false 1 = true := by kernel_rfl
theorem ztr : tyOk Tryz.prog 167 false 1 = true := by kernel_rfl
theorem zp6 : tyOk Tryz.prog 190 true 4 = true := by kernel_rfl
theorem zts : tyOk Tryz.prog 194 false 1 = true := by kernel_rfl
theorem ztt : tyOk Tryz.prog 196 false 1 = true := by kernel_rfl
theorem ztu : tyOk Tryz.prog 215 true 3 = true := by kernel_rfl
theorem ztv : tyOk Tryz.prog 256 true 3 = true := by kernel_rfl
theorem ztw : tyOk Tryz.prog 258 true 15 = true := by kernel_rfl
theorem ze3 : (Tryz.prog.info? 3).bind (·.zero) = some (.int .i64 0) := by kernel_rfl
theorem zc3 : zo Tryz.prog 3 [.int .i64 0] := ⟨_, ze3, rfl⟩
theorem ze4 : (Tryz.prog.info? 4).bind (·.zero) = some (.bool false) := by kernel_rfl
theorem zc4 : zo Tryz.prog 4 [.bool false] := ⟨_, ze4, rfl⟩
theorem ze22 : (Tryz.prog.info? 22).bind (·.zero) = some (.slice none 0 0) := by kernel_rfl
theorem zc22 : zo Tryz.prog 22 [.nils] := ⟨_, ze22, rfl⟩
theorem ze24 : (Tryz.prog.info? 24).bind (·.zero) = some (.agg #[.int .i64 0, .int .i64 0, .int .i64 0, .int .i64 0]) := by kernel_rfl
theorem zc24 : zo Tryz.prog 24 [.int .i64 0, .int .i64 0, .int .i64 0, .int .i64 0] := ⟨_, ze24, rfl⟩
theorem ze29 : (Tryz.prog.info? 29).bind (·.zero) = some (.int .i64 0) := by kernel_rfl
theorem zc29 : zo Tryz.prog 29 [.int .i64 0] := ⟨_, ze29, rfl⟩
theorem ze35 : (Tryz.prog.info? 35).bind (·.zero) = some (.agg #[.slice none 0 0, .slice none 0 0, .slice none 0 0, .slice none 0 0]) := by kernel_rfl
theorem zc35 : zo Tryz.prog 35 [.nils, .nils, .nils, .nils] := ⟨_, ze35, rfl⟩
theorem ze40 : (Tryz.prog.info? 40).bind (·.zero) = some (.agg #[.int .i64 0, .int .i64 0, .int .i64 0, .int .i64 0, .bool false, .int .i64 0, .bool false, .bool false, .int .i64 0, .int .i64 0, .int .i64 0, .int .i64 0, .bool false, .int .i64 0, .int .i64 0, .int .i64 0, .int .i64 0]) := by kernel_rfl
theorem zc40 : zo Tryz.prog 40 [.int .i64 0, .int .i64 0, .int .i64 0, .int .i64 0, .bool false, .int .i64 0, .bool false, .bool false, .int .i64 0, .int .i64 0, .int .i64 0, .int .i64 0, .bool false, .int .i64 0, .int .i64 0, .int .i64 0, .int .i64 0] := ⟨_, ze40, rfl⟩
theorem ze46 : (Tryz.prog.info? 46).bind (·.zero) = some (.agg #[.int .i64 0, .int .i64 0]) := by kernel_rfl
theorem zc46 : zo Tryz.prog 46 [.int .i64 0, .int .i64 0] := ⟨_, ze46, rfl⟩
theorem ze56 : (Tryz.prog.info? 56).bind (·.zero) = some (.nilFunc) := by kernel_rfl
theorem zc56 : zo Tryz.prog 56 [.nilf] := ⟨_, ze56, rfl⟩
theorem ze95 : (Tryz.prog.info? 95).bind (·.zero) = some (.agg #[.int .i64 0, .int .i64 0, .bool false, .bool false, .bool false, .int .i64 0, .int .i64 0, .int .i64 0, .int .i64 0, .int .i64 0, .int .i64 0, .int .i64 0]) := by kernel_rfl
theorem zc95 : zo Tryz.prog 95 [.int .i64 0, .int .i64 0, .bool false, .bool false, .bool false, .int .i64 0, .int .i64 0, .int .i64 0, .int .i64 0, .int .i64 0, .int .i64 0, .int .i64 0] := ⟨_, ze95, rfl⟩
theorem ze97 : (Tryz.prog.info? 97).bind (·.zero) = some (.slice none 0 0) := by kernel_rfl
theorem zc97 : zo Tryz.prog 97 [.nils] := ⟨_, ze97, rfl⟩
theorem zp7 : (Tryz.prog.info? 104).bind (·.zero) = some (.agg #[.int .i64 0, .int .i64 0]) := by kernel_rfl
theorem ztx : zo Tryz.prog 104 [.int .i64 0, .int .i64 0] := ⟨_, zp7, rfl⟩
theorem zp8 : (Tryz.prog.info? 124).bind (·.zero) = some (.agg #[.slice none 0 0, .slice none 0 0, .slice none 0 0]) := by kernel_rfl
theorem zty : zo Tryz.prog 124 [.nils, .nils, .nils] := ⟨_, zp8, rfl⟩
theorem ztz : (Tryz.prog.info? 138).bind (·.zero) = some (.slice none 0 0) := by kernel_rfl
theorem ztA : zo Tryz.prog 138 [.nils] := ⟨_, ztz, rfl⟩
theorem ztB : (Tryz.prog.info? 158).bind (·.zero) = some (.agg #[.slice none 0 0]) := by kernel_rfl
theorem ztC : zo Tryz.prog 158 [.nils] := ⟨_, ztB, rfl⟩
theorem znJ : (Tryz.prog.info? 162).bind (·.zero) = some (.agg #[.int .i64 0, .int .i64 0, .int .i64 0, .int .i64 0, .bool false, .int .i64 0, .int .i64 0]) := by kernel_rfl
theorem ztD : zo Tryz.prog 162 [.int .i64 0, .int .i64 0, .int .i64 0, .int .i64 0, .bool false, .int .i64 0, .int .i64 0] := ⟨_, znJ, rfl⟩
theorem ztE : (Tryz.prog.info? 169).bind (·.zero) = some (.agg #[.slice none 0 0, .int .i64 0, .int .i64 0, .int .i64 0, .map none]) := by kernel_rfl
theorem ztF : (Tryz.prog.info? 190).bind (·.zero) = some (.agg #[.int .i64 0, .int .i64 0, .int .i64 0, .int .i64 0]) := by kernel_rfl
theorem ztG : zo Tryz.prog 190 [.int .i64 0, .int .i64 0, .int .i64 0, .int .i64 0] := ⟨_, ztF, rfl⟩
theorem ztH : (Tryz.prog.info? 207).bind (·.zero) = some (.agg #[.int .i64 0, .int .i64 0, .int .i64 0, .int .i64 0, .int .i64 0, .int .i64 0]) := by kernel_rfl
theorem ztI : zo Tryz.prog 207 [.int .i64 0, .int .i64 0, .int .i64 0, .int .i64 0, .int .i64 0, .int .i64 0] := ⟨_, ztH, rfl⟩
theorem ztJ : (Tryz.prog.info? 215).bind (·.zero) = some (.agg #[.int .i64 0, .int .i64 0, .bool false]) := by kernel_rfl
theorem ztK : zo Tryz.prog 215 [.int .i64 0, .int .i64 0, .bool false] := ⟨_, ztJ, rfl⟩
theorem ztL : (Tryz.prog.info? 256).bind (·.zero) = some (.agg #[.bool false, .bool false, .bool false]) := by kernel_rfl
theorem ztM : zo Tryz.prog 256 [.bool false, .bool false, .bool false] := ⟨_, ztL, rfl⟩
theorem ztN : (Tryz.prog.info? 258).bind (·.zero) = some (.agg #[.bool false, .bool false, .bool false, .bool false, .bool false, .bool false, .bool false, .bool false, .bool false, .bool false, .bool false, .bool false, .bool false, .bool false, .bool false]) := by kernel_rfl
theorem zp9 : zo Tryz.prog 258 [.bool false, .bool false, .bool false, .bool false, .bool false, .bool false, .bool false, .bool false, .bool false, .bool false, .bool false, .bool false, .bool false, .bool false, .bool false] := ⟨_, ztN, rfl⟩
theorem ti3 : zP Tryz.prog 3 (.int .i64 0) 1 8 := zU (by kernel_rfl) rfl
theorem ti4 : zP Tryz.prog 4 (.bool false) 1 1 := zU (by kernel_rfl) rfl
theorem ti22 : zP Tryz.prog 22 (.slice none 0 0) 1 24 := zU (by kernel_rfl) rfl
theorem ti35 : zP Tryz.prog 35 (.agg #[.slice none 0 0, .slice none 0 0, .slice none 0 0, .slice none 0 0]) 4 96 := zU (by kernel_rfl) rfl
theorem ti40 : zP Tryz.prog 40 (.agg #[.int .i64 0, .int .i64 0, .int .i64 0, .int .i64 0, .bool false, .int .i64 0, .bool false, .bool false, .int .i64 0, .int .i64 0, .int .i64 0, .int .i64 0, .bool false, .int .i64 0, .int .i64 0, .int .i64 0, .int .i64 0]) 17 128 := zU (by kernel_rfl) rfl
theorem ti46 : zP Tryz.prog 46 (.agg #[.int .i64 0, .int .i64 0]) 2 16 := zU (by kernel_rfl) rfl
theorem ti95 : zP Tryz.prog 95 (.agg #[.int .i64 0, .int .i64 0, .bool false, .bool false, .bool false, .int .i64 0, .int .i64 0, .int .i64 0, .int .i64 0, .int .i64 0, .int .i64 0, .int .i64 0]) 12 80 := zU (by kernel_rfl) rfl
theorem ztO : zP Tryz.prog 104 (.agg #[.int .i64 0, .int .i64 0]) 2 16 := zU (by kernel_rfl) rfl
theorem ztP : zP Tryz.prog 124 (.agg #[.slice none 0 0, .slice none 0 0, .slice none 0 0]) 3 72 := zU (by kernel_rfl) rfl
theorem ztQ : zP Tryz.prog 162 (.agg #[.int .i64 0, .int .i64 0, .int .i64 0, .int .i64 0, .bool false, .int .i64 0, .int .i64 0]) 7 56 := zU (by kernel_rfl) rfl
theorem sl22 : slOk Tryz.prog 22 3 = true := by kernel_rfl
theorem sl26 : slOk Tryz.prog 26 40 = true := by kernel_rfl
theorem sl28 : slOk Tryz.prog 28 35 = true := by kernel_rfl
theorem sl33 : slOk Tryz.prog 33 46 = true := by kernel_rfl
theorem sl89 : slOk Tryz.prog 89 95 = true := by kernel_rfl
theorem sl97 : slOk Tryz.prog 97 162 = true := by kernel_rfl
theorem ztR : slOk Tryz.prog 102 104 = true := by kernel_rfl
theorem ztS : slOk Tryz.prog 125 124 = true := by kernel_rfl
theorem zaw : slOk Tryz.prog 138 4 = true := by kernel_rfl
theorem zqa : slOk Tryz.prog 196 22 = true := by kernel_rfl
theorem zrA : zb Tryz.prog 24 0 0 = true := by kernel_rfl
theorem zrB : zb Tryz.prog 24 1 1 = true := by kernel_rfl
theorem zrC : zb Tryz.prog 24 2 2 = true := by kernel_rfl
theorem zrD : zb Tryz.prog 24 3 3 = true := by kernel_rfl
theorem zrE : zb Tryz.prog 35 0 0 = true := by kernel_rfl
theorem zrF : zb Tryz.prog 35 1 1 = true := by kernel_rfl
theorem zrG : zb Tryz.prog 35 2 2 = true := by kernel_rfl
theorem zrH : zb Tryz.prog 35 3 3 = true := by kernel_rfl
theorem zrI : zb Tryz.prog 40 0 0 = true := by kernel_rfl
theorem zrJ : zb Tryz.prog 40 1 1 = true := by kernel_rfl
theorem zrK : zb Tryz.prog 40 4 4 = true := by kernel_rfl
theorem zrL : zb Tryz.prog 46 0 0 = true := by kernel_rfl
theorem zrM : zb Tryz.prog 46 1 1 = true := by kernel_rfl
theorem zrN : zb Tryz.prog 95 1 1 = true := by kernel_rfl
theorem zrO : zb Tryz.prog 95 2 2 = true := by kernel_rfl
theorem zrP : zb Tryz.prog 95 3 3 = true := by kernel_rfl
theorem zrQ : zb Tryz.prog 95 4 4 = true := by kernel_rfl
theorem zrR : zb Tryz.prog 95 5 5 = true := by kernel_rfl
theorem zrS : zb Tryz.prog 95 6 6 = true := by kernel_rfl
theorem zrT : zb Tryz.prog 95 7 8 = true := by kernel_rfl
theorem zrU : zb Tryz.prog 95 8 10 = true := by kernel_rfl
theorem zpd : zb Tryz.prog 104 0 0 = true := by kernel_rfl
theorem zpe : zb Tryz.prog 124 0 0 = true := by kernel_rfl
theorem zpf : zb Tryz.prog 124 1 1 = true := by kernel_rfl
theorem zpg : zb Tryz.prog 124 2 2 = true := by kernel_rfl
theorem zph : zb Tryz.prog 158 0 0 = true := by kernel_rfl
theorem zpi : zb Tryz.prog 162 0 0 = true := by kernel_rfl
theorem zpj : zb Tryz.prog 162 1 1 = true := by kernel_rfl
theorem zpk : zb Tryz.prog 162 2 2 = true := by kernel_rfl
theorem zpl : zb Tryz.prog 162 3 3 = true := by kernel_rfl
theorem zpm : zb Tryz.prog 162 4 4 = true := by kernel_rfl
theorem zpn : zb Tryz.prog 162 5 5 = true := by kernel_rfl
theorem zpo : zb Tryz.prog 169 0 0 = true := by kernel_rfl
theorem zpp : zb Tryz.prog 169 1 1 = true := by kernel_rfl
theorem zpq : zb Tryz.prog 169 2 2 = true := by kernel_rfl
theorem zpr : zb Tryz.prog 169 3 4 = true := by kernel_rfl
theorem zps : zb Tryz.prog 215 0 0 = true := by kernel_rfl
theorem zpt : zb Tryz.prog 215 1 1 = true := by kernel_rfl
theorem zpu : zb Tryz.prog 215 2 2 = true := by kernel_rfl
theorem pl24 : zaH Tryz.prog 24 = some [(0, 1), (1, 1), (2, 1), (3, 1)] := by kernel_rfl
theorem ia24 : zY Tryz.prog 24 = true := by kernel_rfl
theorem pl35 : zaH Tryz.prog 35 = some [(0, 1), (1, 1), (2, 1), (3, 1)] := by kernel_rfl
theorem ia35 : zY Tryz.prog 35 = true := by kernel_rfl
theorem pl40 : zaH Tryz.prog 40 = some [(0, 1), (1, 1), (2, 1), (3, 1), (4, 1), (5, 1), (6, 1), (7, 1), (8, 4), (12, 1), (13, 1), (14, 1), (15, 2)] := by kernel_rfl
theorem ia40 : zY Tryz.prog 40 = true := by kernel_rfl
theorem pl46 : zaH Tryz.prog 46 = some [(0, 1), (1, 1)] := by kernel_rfl
theorem ia46 : zY Tryz.prog 46 = true := by kernel_rfl
theorem pl95 : zaH Tryz.prog 95 = some [(0, 1), (1, 1), (2, 1), (3, 1), (4, 1), (5, 1), (6, 2), (8, 2), (10, 2)] := by kernel_rfl
theorem ia95 : zY Tryz.prog 95 = true := by kernel_rfl
theorem ztT : zaH Tryz.prog 104 = some [(0, 2)] := by kernel_rfl
theorem ztU : zY Tryz.prog 104 = true := by kernel_rfl
theorem ztV : zaH Tryz.prog 124 = some [(0, 1), (1, 1), (2, 1)] := by kernel_rfl
theorem ztW : zY Tryz.prog 124 = true := by kernel_rfl
theorem ztX : zaH Tryz.prog 158 = some [(0, 1)] := by kernel_rfl
theorem ztY : zY Tryz.prog 158 = true := by kernel_rfl
theorem ztZ : zaH Tryz.prog 162 = some [(0, 1), (1, 1), (2, 1), (3, 1), (4, 1), (5, 2)] := by kernel_rfl
theorem zt0 : zY Tryz.prog 162 = true := by kernel_rfl
theorem zt1 : zaH Tryz.prog 169 = some [(0, 1), (1, 1), (2, 2), (4, 1)] := by kernel_rfl
theorem zt2 : zY Tryz.prog 169 = true := by kernel_rfl
theorem zt3 : zaH Tryz.prog 215 = some [(0, 1), (1, 1), (2, 1)] := by kernel_rfl
theorem zt4 : zY Tryz.prog 215 = true := by kernel_rfl
theorem znK : zcZ Tryz.prog 190 4 3 = true := by kernel_rfl
theorem zt5 : zcZ Tryz.prog 207 3 46 = true := by kernel_rfl
theorem zt6 : zcZ Tryz.prog 256 3 4 = true := by kernel_rfl
theorem zt7 : zcZ Tryz.prog 258 5 256 = true := by kernel_rfl
theorem zt8 : (eqOk Tryz.prog 5 46 && decide (5 <= 10000)) = true := by kernel_rfl
theorem fl46 : flat Tryz.prog 5 46 = [1, 1] := by kernel_rfl
theorem eq46 : (eqOk Tryz.prog 5 46 && decide (5 <= 10000)) = true := zt8
theorem eg46 : Tryz.prog.eqGuardType Tryz.prog.depth 46 = false := by kernel_rfl
theorem mo : Tryz.prog.follows .mixedOrders = true := by kernel_rfl
end Go.Rse
