/-
  Walks: what dots mean.
-/
import Derived.Test.YteecbmgddacioaaSlice1
import Derived.Test.YteecbmgddacioaaRse20
import Derived.Test.YteecbmgddacioaaMens2
namespace Go.Rse
open Go Go.Proofs
set_option linter.unusedVariables false
set_option linter.unusedSimpArgs false
attribute [local irreducible] Pur StepA StepM Ex X ExG Fn Imp LeV LeB FnO It YStep
/-- The distinct elements that are wanted, ascending. -/
def coll (p : Int → Bool) (l : List Int) : List Int := Lib.compact (srtI (dl (fun v => !p v) l))
theorem coll_len (p : Int → Bool) (l : List Int) : (coll p l).length ≤ l.length := Nat.le_trans (Lib.compact_length_le _) (by rw [srtI_len]; exact List.length_filter_le _ _)
theorem coll_dl_len (p : Int → Bool) (l : List Int) : (dl p l).length ≤ l.length := List.length_filter_le _ _
theorem C_dot_collect_int_1 (fp : FuncId) (p : Int → Bool) (v : Int) (hp : Fn Try.prog fp [iv v] (.bool (p v))) : Fn Try.prog 196 [iv v, .ept (fun _ : Unit => [.fn fp []]) () 0] (.bool (!p v)) := by
  refine Fn.intro (ts := [(0, iv v), (1, .ept (fun _ : Unit => [.fn fp []]) () 0)]) (rv := [.tmp 3]) (n := 8) (by kernel_rfl) Try.func196 rfl Try.ntmps196 rfl rfl rfl (by simp) (fun g w d => ?_)
  refine X.seq ?_
  refine X.region ?_
  refine Ex.pur (P_assign rfl) rfl ?_
  refine Ex.nil ?_
  refine X.seq ?_
  refine X.region ?_
  first
    | refine Ex.pur (P_load_box rfl rfl rfl ty96) rfl ?_
    | refine Ex.pur (P_load_ept rfl rfl rfl ty96) rfl ?_
    | refine Ex.pur (P_load_row rfl rfl (by assumption) rfl rfl ty96) rfl ?_
  refine Ex.pur (P_move rfl) rfl ?_
  refine Ex.call rfl rfl rfl hp rfl ?_
  refine Ex.pur (P_not rfl) rfl ?_
  refine Ex.pur (P_assign rfl) rfl ?_
  refine Ex.nil ?_
  refine X.ret ?_
  refine RetQ.ret (.one (.tmp rfl (LeV.eq ?_)))
  all_goals (first | rfl | (simp_all; done))
theorem C_dot_collect_int (l : List Int) (hl : l.length ≤ 4000000000) (fp : FuncId) (p : Int → Bool) (hp : ∀ v, v ∈ l → Fn Try.prog fp [iv v] (.bool (p v))) : Fn Try.prog 156 [intsA l, .fn fp []] (intsA (coll p l)) := by
  refine Fn.intro (ts := [(0, intsA l), (1, .fn fp [])]) (rv := [.tmp 4]) (n := 13) (by kernel_rfl) Try.func156 rfl Try.ntmps156 rfl rfl rfl (by simp) (fun g w d => ?_)
  refine X.seq ?_
  refine X.region ?_
  refine Ex.stepA (A_box (k := 3) rfl rfl rfl) rfl rfl ?_
  refine Ex.pur (P_assign rfl) rfl ?_
  refine Ex.nil ?_
  refine X.seq ?_
  refine X.region ?_
  refine Ex.pur (P_move rfl) rfl ?_
  refine Ex.callO' [(5, 6)] (C_slices_Clone_int_int l hl) rfl rfl rfl (LeL.refl _) rfl rfl trivial rfl rfl rfl rfl ?_
  refine Ex.imp (Imp.freezeBox (k := 3) rfl rfl) ?_
  refine Ex.pur (P_makeFunc rfl) rfl ?_
  refine Ex.callO' [(2000000, 6), (2000002, 8)] (FnO.renOwn 2000002 (C_slices_DeleteFunc_int_int l hl 196 [.ept (fun _ : Unit => [.fn fp []]) () 0] (fun v => !p v) rfl (fun v hv => C_dot_collect_int_1 fp p v (hp v hv))) rfl) rfl rfl rfl (LeL.refl _) rfl rfl ⟨⟨_, _, rfl, rfl, LeB.refl _, rfl⟩, trivial⟩ rfl rfl rfl rfl ?_
  refine Ex.pur (P_assign rfl) rfl ?_
  refine Ex.nil ?_
  refine X.seq ?_
  refine X.region ?_
  refine Ex.pur (P_move rfl) rfl ?_
  refine Ex.callO' [(2000000, 8)] (C_slices_Sort_int_int (dl (fun v => !p v) l) (Nat.le_trans (coll_dl_len _ _) hl)) rfl rfl rfl (LeL.refl _) rfl rfl ⟨⟨_, _, rfl, rfl, LeB.refl _, rfl⟩, trivial⟩ rfl rfl rfl rfl ?_
  refine Ex.nil ?_
  refine X.seq ?_
  refine X.region ?_
  refine Ex.pur (P_move rfl) rfl ?_
  refine Ex.callO' [(2000000, 8), (2000002, 12)] (FnO.renOwn 2000002 (C_slices_Compact_int_int (srtI (dl (fun v => !p v) l)) (by rw [srtI_len]; exact Nat.le_trans (coll_dl_len _ _) hl)) rfl) rfl rfl rfl (LeL.refl _) rfl rfl ⟨⟨_, _, rfl, rfl, LeB.refl _, rfl⟩, trivial⟩ rfl rfl rfl rfl ?_
  refine Ex.pur (P_assign rfl) rfl ?_
  refine Ex.nil ?_
  refine X.ret ?_
  refine RetQ.imp (Imp.freeze (k := 12) rfl) ?_
  refine RetQ.ret (.one (.tmp rfl (LeV.eq ?_)))
  all_goals (first | rfl | (simp_all; done))
def Mn.aV (m : Mn) (v : Int) : Int := if ckMV m v = 0 then m.ab v else 0
def Mn.pV (m : Mn) (v : Int) : Int := if ckMV m v = 0 then m.p v else 0
def posI (v : Int) : Bool := decide (0 < v)
/-- The meanings of a dot behind a sign. -/
def mngs (m : Mn) (s : Sg) : List Int :=
  if s.Kind = 2 then coll posI [m.aV s.Value] else if s.Color then [0] else if m.pV s.Value = 3 then coll posI [s.Value, m.aV s.Value] else 0 :: coll posI [m.aV s.Value]
theorem C_dot_meanings_1 (v : Int) : Fn Try.prog 155 [iv v] (.bool (posI v)) := by
  refine Fn.intro (ts := [(0, iv v)]) (rv := [.tmp 2]) (n := 5) (by kernel_rfl) Try.func155 rfl Try.ntmps155 rfl rfl rfl (by simp) (fun g w d => ?_)
  refine X.seq ?_
  refine X.region ?_
  refine Ex.pur (P_assign rfl) rfl ?_
  refine Ex.nil ?_
  refine X.seq ?_
  refine X.region ?_
  refine Ex.pur (P_move rfl) rfl ?_
  refine Ex.pur (P_gtr rfl rfl) rfl ?_
  refine Ex.pur (P_assign rfl) rfl ?_
  refine Ex.nil ?_
  refine X.ret ?_
  refine RetQ.ret (.one (.tmp rfl (LeV.eq ?_)))
  all_goals (first | rfl | (simp_all; done))
theorem C_dot_meanings (m : Mn) (s : Sg) : Fn Try.prog 116 [mnA m, sgA s] (intsA (mngs m s)) := by
  refine Fn.intro (ts := [(0, mnA m), (1, sgA s)]) (rv := [.tmp 4]) (n := 51) (by kernel_rfl) Try.func116 rfl Try.ntmps116 rfl rfl rfl (by simp) (fun g w d => ?_)
  refine X.seq ?_
  refine X.region ?_
  refine Ex.stepA (A_box_agg (k := 2) rfl rfl) rfl rfl ?_
  refine Ex.stepA (A_box_agg (k := 3) rfl rfl) rfl rfl ?_
  refine Ex.pur (P_assign rfl) rfl ?_
  refine Ex.nil ?_
  refine X.seq ?_
  refine X.region ?_
  first
    | refine Ex.pur (P_load_box_all rfl rfl rfl rfl ty23) rfl ?_
    | refine Ex.pur (P_load_ept_all rfl rfl rfl ty23) rfl ?_
    | refine Ex.pur (P_load_ept_part rfl rfl rfl rfl ty23) rfl ?_
    | refine Ex.pur (P_load_box_part rfl rfl rfl rfl ty23) rfl ?_
  first
    | refine Ex.pur (P_fieldAddr_ptr rfl fo64_1) rfl ?_
    | refine Ex.pur (P_fieldAddr_ept rfl fo64_1) rfl ?_
  first
    | refine Ex.pur (P_load_box rfl rfl rfl ty3) rfl ?_
    | refine Ex.pur (P_load_ept rfl rfl rfl ty3) rfl ?_
    | refine Ex.pur (P_load_row rfl rfl (by assumption) rfl rfl ty3) rfl ?_
  refine Ex.call rfl rfl rfl (C_mens_Above m s.Value) rfl ?_
  refine Ex.pur (P_move rfl) rfl ?_
  refine Ex.pur (P_extract rfl rfl) rfl ?_
  refine Ex.pur (P_extract rfl rfl) rfl ?_
  refine Ex.pur (P_assign rfl) rfl ?_
  refine Ex.pur (P_assign rfl) rfl ?_
  refine Ex.nil ?_
  refine X.seq ?_
  refine X.region ?_
  first
    | refine Ex.pur (P_load_box_all rfl rfl rfl rfl ty23) rfl ?_
    | refine Ex.pur (P_load_ept_all rfl rfl rfl ty23) rfl ?_
    | refine Ex.pur (P_load_ept_part rfl rfl rfl rfl ty23) rfl ?_
    | refine Ex.pur (P_load_box_part rfl rfl rfl rfl ty23) rfl ?_
  first
    | refine Ex.pur (P_fieldAddr_ptr rfl fo64_1) rfl ?_
    | refine Ex.pur (P_fieldAddr_ept rfl fo64_1) rfl ?_
  first
    | refine Ex.pur (P_load_box rfl rfl rfl ty3) rfl ?_
    | refine Ex.pur (P_load_ept rfl rfl rfl ty3) rfl ?_
    | refine Ex.pur (P_load_row rfl rfl (by assumption) rfl rfl ty3) rfl ?_
  refine Ex.call rfl rfl rfl (C_mens_Parts m s.Value) rfl ?_
  refine Ex.pur (P_move rfl) rfl ?_
  refine Ex.pur (P_extract rfl rfl) rfl ?_
  refine Ex.pur (P_extract rfl rfl) rfl ?_
  refine Ex.pur (P_assign rfl) rfl ?_
  refine Ex.pur (P_assign rfl) rfl ?_
  refine Ex.nil ?_
  refine X.seq ?_
  refine X.region ?_
  refine Ex.pur (P_assign rfl) rfl ?_
  refine Ex.nil ?_
  refine X.seq ?_
  refine X.block ?_
  refine X.seq ?_
  refine X.region ?_
  first
    | refine Ex.pur (P_fieldAddr_ptr rfl fo64_0) rfl ?_
    | refine Ex.pur (P_fieldAddr_ept rfl fo64_0) rfl ?_
  first
    | refine Ex.pur (P_load_box rfl rfl rfl ty3) rfl ?_
    | refine Ex.pur (P_load_ept rfl rfl rfl ty3) rfl ?_
    | refine Ex.pur (P_load_row rfl rfl (by assumption) rfl rfl ty3) rfl ?_
  refine Ex.pur (P_eql rfl rfl) rfl ?_
  refine Ex.pur (P_assign rfl) rfl ?_
  refine Ex.nil ?_
  refine X.cond rfl (fun hc1 => ?_) (fun hc1 => ?_)
  · try simp only [decide_eq_true_eq, decide_eq_false_iff_not, Bool.not_eq_true', Bool.not_eq_false', Bool.and_eq_true, Bool.or_eq_true, Bool.and_eq_false_iff, Bool.or_eq_false_iff, Int.not_lt, Int.not_le, Decidable.not_not] at hc1
    refine X.seq ?_
    refine X.region ?_
    refine Ex.pur (P_move rfl) rfl ?_
    refine Ex.stepA (A_buildSlice (k := 29) (enc := intE) (l := [_]) sl29 ty3 ze3 (by decide) rfl rfl rfl rfl (by decide) (by decide) (fun _ => rfl) rfl) rfl rfl ?_
    refine Ex.pur (P_move rfl) rfl ?_
    refine Ex.imp (Imp.freeze (k := 29) rfl) ?_
    refine Ex.call rfl rfl rfl (C_dot_collect_int [m.aV s.Value] (by simp) _ posI (fun v _ => C_dot_meanings_1 v)) rfl ?_
    refine Ex.pur (P_assign rfl) rfl ?_
    refine Ex.nil ?_
    refine X.ret ?_
    refine RetQ.ret (.one (.tmp rfl (LeV.eq ?_)))
    all_goals (simp [mngs, hc1])
  try simp only [decide_eq_true_eq, decide_eq_false_iff_not, Bool.not_eq_true', Bool.not_eq_false', Bool.and_eq_true, Bool.or_eq_true, Bool.and_eq_false_iff, Bool.or_eq_false_iff, Int.not_lt, Int.not_le, Decidable.not_not] at hc1
  refine X.seq ?_
  refine X.region ?_
  first
    | refine Ex.pur (P_fieldAddr_ptr rfl fo64_4) rfl ?_
    | refine Ex.pur (P_fieldAddr_ept rfl fo64_4) rfl ?_
  first
    | refine Ex.pur (P_load_box rfl rfl rfl ty4) rfl ?_
    | refine Ex.pur (P_load_ept rfl rfl rfl ty4) rfl ?_
    | refine Ex.pur (P_load_row rfl rfl (by assumption) rfl rfl ty4) rfl ?_
  refine Ex.pur (P_assign rfl) rfl ?_
  refine Ex.nil ?_
  refine X.cond rfl (fun hc2 => ?_) (fun hc2 => ?_)
  · try simp only [decide_eq_true_eq, decide_eq_false_iff_not, Bool.not_eq_true', Bool.not_eq_false', Bool.and_eq_true, Bool.or_eq_true, Bool.and_eq_false_iff, Bool.or_eq_false_iff, Int.not_lt, Int.not_le, Decidable.not_not] at hc2
    refine X.seq ?_
    refine X.region ?_
    refine Ex.stepA (A_buildSlice (k := 35) (enc := intE) (l := [_]) sl29 ty3 ze3 (by decide) rfl rfl rfl rfl (by decide) (by decide) (fun _ => rfl) rfl) rfl rfl ?_
    refine Ex.pur (P_assign rfl) rfl ?_
    refine Ex.nil ?_
    refine X.ret ?_
    refine RetQ.imp (Imp.freeze (k := 35) rfl) ?_
    refine RetQ.ret (.one (.tmp rfl (LeV.eq ?_)))
    all_goals (simp [mngs, *]; rfl)
  try simp only [decide_eq_true_eq, decide_eq_false_iff_not, Bool.not_eq_true', Bool.not_eq_false', Bool.and_eq_true, Bool.or_eq_true, Bool.and_eq_false_iff, Bool.or_eq_false_iff, Int.not_lt, Int.not_le, Decidable.not_not] at hc2
  refine X.seq ?_
  refine X.region ?_
  refine Ex.pur (P_move rfl) rfl ?_
  refine Ex.pur (P_eql rfl rfl) rfl ?_
  refine Ex.pur (P_assign rfl) rfl ?_
  refine Ex.nil ?_
  refine X.cond rfl (fun hc3 => ?_) (fun hc3 => ?_)
  · try simp only [decide_eq_true_eq, decide_eq_false_iff_not, Bool.not_eq_true', Bool.not_eq_false', Bool.and_eq_true, Bool.or_eq_true, Bool.and_eq_false_iff, Bool.or_eq_false_iff, Int.not_lt, Int.not_le, Decidable.not_not] at hc3
    have hc4 : m.pV s.Value = 3 := hc3
    refine X.seq ?_
    refine X.region ?_
    first
      | refine Ex.pur (P_fieldAddr_ptr rfl fo64_1) rfl ?_
      | refine Ex.pur (P_fieldAddr_ept rfl fo64_1) rfl ?_
    first
      | refine Ex.pur (P_load_box rfl rfl rfl ty3) rfl ?_
      | refine Ex.pur (P_load_ept rfl rfl rfl ty3) rfl ?_
      | refine Ex.pur (P_load_row rfl rfl (by assumption) rfl rfl ty3) rfl ?_
    refine Ex.pur (P_move rfl) rfl ?_
    refine Ex.stepA (A_buildSlice (k := 42) (enc := intE) (l := [_, _]) sl29 ty3 ze3 (by decide) rfl rfl rfl rfl (by decide) (by decide) (fun _ => rfl) rfl) rfl rfl ?_
    refine Ex.pur (P_move rfl) rfl ?_
    refine Ex.imp (Imp.freeze (k := 42) rfl) ?_
    refine Ex.call rfl rfl rfl (C_dot_collect_int [s.Value, m.aV s.Value] (by simp) _ posI (fun v _ => C_dot_meanings_1 v)) rfl ?_
    refine Ex.pur (P_assign rfl) rfl ?_
    refine Ex.nil ?_
    refine X.ret ?_
    refine RetQ.ret (.one (.tmp rfl (LeV.eq ?_)))
    all_goals (simp [mngs, hc1, hc2, hc4])
  try simp only [decide_eq_true_eq, decide_eq_false_iff_not, Bool.not_eq_true', Bool.not_eq_false', Bool.and_eq_true, Bool.or_eq_true, Bool.and_eq_false_iff, Bool.or_eq_false_iff, Int.not_lt, Int.not_le, Decidable.not_not] at hc3
  have hc4 : ¬ m.pV s.Value = 3 := hc3
  have hcl : (coll posI [m.aV s.Value]).length ≤ 1 := coll_len _ _
  refine X.skip ?_
  refine X.seq ?_
  refine X.region ?_
  refine Ex.stepA (A_buildSlice (k := 45) (enc := intE) (l := [_]) sl29 ty3 ze3 (by decide) rfl rfl rfl rfl (by decide) (by decide) (fun _ => rfl) rfl) rfl rfl ?_
  refine Ex.pur (P_move rfl) rfl ?_
  refine Ex.stepA (A_buildSlice (k := 47) (enc := intE) (l := [_]) sl29 ty3 ze3 (by decide) rfl rfl rfl rfl (by decide) (by decide) (fun _ => rfl) rfl) rfl rfl ?_
  refine Ex.pur (P_move rfl) rfl ?_
  refine Ex.imp (Imp.freeze (k := 47) rfl) ?_
  refine Ex.call rfl rfl rfl (C_dot_collect_int [m.aV s.Value] (by simp) _ posI (fun v _ => C_dot_meanings_1 v)) rfl ?_
  first
    | (refine Ex.stepM (M_append_own rfl rfl rfl rfl sl29 ti3 (by decide) (by decide) (fun _ => rfl) (fun _ => rfl) ?_ rfl) ?_; iterate 1 (· first | assumption | rfl | omega | (simp; done) | (simp; omega) | (simp_all; done)))
    | (refine Ex.stepM (M_append_sl rfl rfl rfl sl29 ti3 (by decide) (by decide) (fun _ => rfl) (fun _ => rfl) ?_ rfl) ?_; iterate 1 (· first | assumption | rfl | omega | (simp; done) | (simp; omega) | (simp_all; done)))
  refine Ex.pur (P_assign rfl) rfl ?_
  refine Ex.nil ?_
  refine X.ret ?_
  refine RetQ.imp (Imp.freeze (k := 45) rfl) ?_
  refine RetQ.ret (.one (.tmp rfl (LeV.eq ?_)))
  all_goals (simp [mngs, *]; rfl)
end Go.Rse
