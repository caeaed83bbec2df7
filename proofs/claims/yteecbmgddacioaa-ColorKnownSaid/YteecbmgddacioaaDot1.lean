/-
  Walks: what dots mean.
-/
import Derived.Test.YteecbmgddacioaaSlice1
import Derived.Test.YteecbmgddacioaaRse20
import Derived.Test.YteecbmgddacioaaMens2
namespace Go.Rse
open Go Go.Proofs
set_option linter.unusedVariables false
set_option linter.unusedSimpArgs false
attribute [local irreducible] Pur StepA StepM Ex X ExG Fn Imp LeV LeB FnO It YStep
/-- The distinct elements that are wanted, ascending. -/
def coll (p : Int → Bool) (l : List Int) : List Int := Lib.compact (srtI (dl (fun v => !p v) l))
theorem coll_len (p : Int → Bool) (l : List Int) : (coll p l).length ≤ l.length := Nat.le_trans (Lib.compact_length_le _) (by rw [srtI_len]; exact List.length_filter_le _ _)
theorem coll_dl_len (p : Int → Bool) (l : List Int) : (dl p l).length ≤ l.length := List.length_filter_le _ _
theorem C_dot_collect_int_1 (fp : FuncId) (p : Int → Bool) (v : Int) (hp : Fn Try.prog fp [iv v] (.bool (p v))) : Fn Try.prog 196 [iv v, .ept (fun _ : Unit => [.fn fp []]) () 0] (.bool (!p v)) := by
  refine Fn.go Try.func196 Try.ntmps196 (fun g w d => ?_)
  refine X.seq ?_
  refine X.region ?_
  refine Ex.pu ?_
  refine Ex.nil ?_
  refine X.seq ?_
  refine X.region ?_
  iterate 2 refine Ex.pu ?_
  refine Ex.ca hp ?_
  iterate 2 refine Ex.pu ?_
  refine Ex.nil ?_
  refine X.ret ?_
  refine RetQ.ret (.one (.tmp rfl (LeV.eq ?_)))
  all_goals (first | rfl | (simp_all; done))
theorem C_dot_collect_int (l : List Int) (hl : l.length ≤ 4000000000) (fp : FuncId) (p : Int → Bool) (hp : ∀ v, v ∈ l → Fn Try.prog fp [iv v] (.bool (p v))) : Fn Try.prog 156 [intsA l, .fn fp []] (intsA (coll p l)) := by
  refine Fn.go Try.func156 Try.ntmps156 (fun g w d => ?_)
  refine X.seq ?_
  refine X.region ?_
  refine Ex.bx ?_
  refine Ex.pu ?_
  refine Ex.nil ?_
  refine X.seq ?_
  refine X.region ?_
  refine Ex.pu ?_
  refine Ex.callO' [(5, 6)] (C_slices_Clone_int_int l hl) rfl rfl rfl (LeL.refl _) rfl rfl trivial rfl rfl rfl rfl ?_
  refine Ex.imp (Imp.freezeBox (k := 3) rfl rfl) ?_
  refine Ex.pur (P_makeFunc rfl) rfl ?_
  refine Ex.callO' [(2000000, 6), (2000002, 8)] (FnO.renOwn 2000002 (C_slices_DeleteFunc_int_int l hl 196 [.ept (fun _ : Unit => [.fn fp []]) () 0] (fun v => !p v) rfl (fun v hv => C_dot_collect_int_1 fp p v (hp v hv))) rfl) rfl rfl rfl (LeL.refl _) rfl rfl ⟨⟨_, _, rfl, rfl, LeB.refl _, rfl⟩, trivial⟩ rfl rfl rfl rfl ?_
  refine Ex.pu ?_
  refine Ex.nil ?_
  refine X.seq ?_
  refine X.region ?_
  refine Ex.pu ?_
  refine Ex.callO' [(2000000, 8)] (C_slices_Sort_int_int (dl (fun v => !p v) l) (Nat.le_trans (coll_dl_len _ _) hl)) rfl rfl rfl (LeL.refl _) rfl rfl ⟨⟨_, _, rfl, rfl, LeB.refl _, rfl⟩, trivial⟩ rfl rfl rfl rfl ?_
  refine Ex.nil ?_
  refine X.seq ?_
  refine X.region ?_
  refine Ex.pu ?_
  refine Ex.callO' [(2000000, 8), (2000002, 12)] (FnO.renOwn 2000002 (C_slices_Compact_int_int (srtI (dl (fun v => !p v) l)) (by rw [srtI_len]; exact Nat.le_trans (coll_dl_len _ _) hl)) rfl) rfl rfl rfl (LeL.refl _) rfl rfl ⟨⟨_, _, rfl, rfl, LeB.refl _, rfl⟩, trivial⟩ rfl rfl rfl rfl ?_
  refine Ex.pu ?_
  refine Ex.nil ?_
  refine X.ret ?_
  refine RetQ.imp (Imp.freeze (k := 12) rfl) ?_
  refine RetQ.ret (.one (.tmp rfl (LeV.eq ?_)))
  all_goals (first | rfl | (simp_all; done))
def Mn.aV (m : Mn) (v : Int) : Int := if ckMV m v = 0 then m.ab v else 0
def Mn.pV (m : Mn) (v : Int) : Int := if ckMV m v = 0 then m.p v else 0
def posI (v : Int) : Bool := decide (0 < v)
/-- The meanings of a dot behind a sign. -/
def mngs (m : Mn) (s : Sg) : List Int :=
  if s.Kind = 2 then coll posI [m.aV s.Value] else if s.Color then [0] else if m.pV s.Value = 3 then coll posI [s.Value, m.aV s.Value] else 0 :: coll posI [m.aV s.Value]
theorem C_dot_meanings_1 (v : Int) : Fn Try.prog 155 [iv v] (.bool (posI v)) := by
  refine Fn.go Try.func155 Try.ntmps155 (fun g w d => ?_)
  refine X.seq ?_
  refine X.region ?_
  refine Ex.pu ?_
  refine Ex.nil ?_
  refine X.seq ?_
  refine X.region ?_
  iterate 3 refine Ex.pu ?_
  refine Ex.nil ?_
  refine X.ret ?_
  refine RetQ.ret (.one (.tmp rfl (LeV.eq ?_)))
  all_goals (first | rfl | (simp_all; done))
theorem C_dot_meanings (m : Mn) (s : Sg) : Fn Try.prog 116 [mnA m, sgA s] (intsA (mngs m s)) := by
  refine Fn.go Try.func116 Try.ntmps116 (fun g w d => ?_)
  refine X.seq ?_
  refine X.region ?_
  refine Ex.ba ?_
  refine Ex.ba ?_
  refine Ex.pu ?_
  refine Ex.nil ?_
  refine X.seq ?_
  refine X.region ?_
  iterate 3 refine Ex.pu ?_
  refine Ex.ca (C_mens_Above m s.Value) ?_
  iterate 5 refine Ex.pu ?_
  refine Ex.nil ?_
  refine X.seq ?_
  refine X.region ?_
  iterate 3 refine Ex.pu ?_
  refine Ex.ca (C_mens_Parts m s.Value) ?_
  iterate 5 refine Ex.pu ?_
  refine Ex.nil ?_
  refine X.seq ?_
  refine X.region ?_
  refine Ex.pu ?_
  refine Ex.nil ?_
  refine X.seq ?_
  refine X.block ?_
  refine X.seq ?_
  refine X.region ?_
  iterate 4 refine Ex.pu ?_
  refine Ex.nil ?_
  refine X.cd rfl (fun hc1 => ?_) (fun hc1 => ?_)
  · refine X.seq ?_
    refine X.region ?_
    refine Ex.pu ?_
    refine Ex.bs intE [_] ?_
    refine Ex.pu ?_
    refine Ex.imp (Imp.freeze (k := 29) rfl) ?_
    refine Ex.call rfl rfl rfl (C_dot_collect_int [m.aV s.Value] (by simp) _ posI (fun v _ => C_dot_meanings_1 v)) rfl ?_
    refine Ex.pu ?_
    refine Ex.nil ?_
    refine X.ret ?_
    refine RetQ.ret (.one (.tmp rfl (LeV.eq ?_)))
    all_goals (simp [mngs, hc1])
  refine X.seq ?_
  refine X.region ?_
  iterate 3 refine Ex.pu ?_
  refine Ex.nil ?_
  refine X.cd rfl (fun hc2 => ?_) (fun hc2 => ?_)
  · refine X.seq ?_
    refine X.region ?_
    refine Ex.bs intE [_] ?_
    refine Ex.pu ?_
    refine Ex.nil ?_
    refine X.ret ?_
    refine RetQ.imp (Imp.freeze (k := 35) rfl) ?_
    refine RetQ.ret (.one (.tmp rfl (LeV.eq ?_)))
    all_goals (simp [mngs, *]; rfl)
  refine X.seq ?_
  refine X.region ?_
  iterate 3 refine Ex.pu ?_
  refine Ex.nil ?_
  refine X.cd rfl (fun hc3 => ?_) (fun hc3 => ?_)
  · have hc4 : m.pV s.Value = 3 := hc3
    refine X.seq ?_
    refine X.region ?_
    iterate 3 refine Ex.pu ?_
    refine Ex.bs intE [_, _] ?_
    refine Ex.pu ?_
    refine Ex.imp (Imp.freeze (k := 42) rfl) ?_
    refine Ex.call rfl rfl rfl (C_dot_collect_int [s.Value, m.aV s.Value] (by simp) _ posI (fun v _ => C_dot_meanings_1 v)) rfl ?_
    refine Ex.pu ?_
    refine Ex.nil ?_
    refine X.ret ?_
    refine RetQ.ret (.one (.tmp rfl (LeV.eq ?_)))
    all_goals (simp [mngs, hc1, hc2, hc4])
  have hc4 : ¬ m.pV s.Value = 3 := hc3
  have hcl : (coll posI [m.aV s.Value]).length ≤ 1 := coll_len _ _
  refine X.skip ?_
  refine X.seq ?_
  refine X.region ?_
  refine Ex.bs intE [_] ?_
  refine Ex.pu ?_
  refine Ex.bs intE [_] ?_
  refine Ex.pu ?_
  refine Ex.imp (Imp.freeze (k := 47) rfl) ?_
  refine Ex.call rfl rfl rfl (C_dot_collect_int [m.aV s.Value] (by simp) _ posI (fun v _ => C_dot_meanings_1 v)) rfl ?_
  refine Ex.mo ?_
  refine Ex.pu ?_
  refine Ex.nil ?_
  refine X.ret ?_
  refine RetQ.imp (Imp.freeze (k := 45) rfl) ?_
  refine RetQ.ret (.one (.tmp rfl (LeV.eq ?_)))
  all_goals (simp [mngs, *]; rfl)
end Go.Rse
