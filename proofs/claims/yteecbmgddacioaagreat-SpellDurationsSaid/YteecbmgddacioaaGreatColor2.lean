/-
  Walks: colored durations by definition; pairs of minor color.
-/
import Derived.Test.YteecbmgddacioaaGreatDurP
namespace Go.Rse
open Go Go.Proofs
set_option linter.unusedVariables false
set_option linter.unusedSimpArgs false
attribute [local irreducible] Pur StepA StepM Ex X ExG Fn Imp LeV LeB FnO It YStep
theorem ckMV_0 {m : Mn} {v : Int} (hm : ckM m = 0) (h1 : 1 ≤ v) (h8 : v ≤ 8) : ckMV m v = 0 := by
  unfold ckM at hm; unfold ckMV
  split at hm
  · rw [if_pos (by assumption), if_pos ⟨h1, h8⟩]
  · simp at hm
theorem C_tactusref05_FullV {m : Mn} {v : Int} (hm : ckM m = 0) (h1 : 1 ≤ v) (h8 : v ≤ 8) : Fn Tryz.prog 31 [mnA m, iv v] (.tup [tmA (fullT m v), iv 0]) := by
  have h := C_tactusref05_Full m v
  rw [ckMV_0 hm h1 h8, if_pos rfl] at h; exact h
theorem C_tactusref05_LevelsV {m : Mn} (hm : ckM m = 0) : Fn Tryz.prog 83 [mnA m] (.tup [intsA (perfL m), iv 0]) := by
  have h := C_tactusref05_Levels m
  rw [hm, if_pos rfl] at h; exact h
theorem pl_false {m : Mn} (hm : ckM m = 0) (h : ¬ ((perfL m).length : Int) = 0) : m.pl = false := by
  cases hp : m.pl with
  | false => rfl
  | true => exact absurd ((perfL_pl m hm).2 hp) h
theorem durT_A {m : Mn} {v : Int} (hm : ckM m = 0) (h1 : 1 ≤ v) (h8 : v ≤ 8) (h : ((perfL m).length : Int) = 0 ∨ (v < 5 ∧ m.p v = 3)) : durT m v = tmkT ((fullT m v).N * 2) ((fullT m v).D * 3) := by
  rw [← (dur_facts hm h1 h8).1]
  cases hp : m.pl with
  | true => exact durT_pl hp
  | false =>
    rcases h with h | h
    · rw [(perfL_pl m hm).1 h] at hp; cases hp
    · exact durT_3 hp h.1 h.2
theorem durT_C {m : Mn} {v : Int} (hm : ckM m = 0) (h1 : 1 ≤ v) (hp : m.pl = false) (h5 : v < 5) (h3 : ¬ m.p v = 3) : durT m v = tmkT ((durT m (v + 1)).N * 2) ((durT m (v + 1)).D * 1) := by
  rw [← (dur_facts hm (show 1 ≤ v + 1 by omega) (by omega)).2.1]
  exact durT_2 hp h5 h3
/-- A colored note. -/
def clr (s : Sg) : Bool := decide (s.Kind = 1) && s.Color
/-- The next note or rest from a place on in a direction. -/
def nearA (l : List Sg) (by' : Int) : Nat → Int → Option Sg
  | 0, _ => none
  | n + 1, i => if 0 ≤ i ∧ i < (l.length : Int) then (if (l.getD i.toNat default).Kind = 3 then nearA l by' n (i + by') else some (l.getD i.toNat default)) else none
def nearF (l : List Sg) (by' i : Int) : Option Sg := nearA l by' (l.length + 2) i
theorem nearA_out {l : List Sg} {by' : Int} {n : Nat} {i : Int} (h : ¬ (0 ≤ i ∧ i < (l.length : Int))) : nearA l by' n i = none := by
  cases n with
  | zero => rfl
  | succ n => unfold nearA; rw [if_neg h]
theorem nearA_hit {l : List Sg} {by' : Int} {n : Nat} {i : Int} (h : 0 ≤ i ∧ i < (l.length : Int)) (h3 : ¬ (l.getD i.toNat default).Kind = 3) (hn : 0 < n) : nearA l by' n i = some (l.getD i.toNat default) := by
  cases n with
  | zero => omega
  | succ n => unfold nearA; rw [if_pos h, if_neg h3]
theorem nearA_go {l : List Sg} {by' : Int} {n : Nat} {i : Int} (h : 0 ≤ i ∧ i < (l.length : Int)) (h3 : (l.getD i.toNat default).Kind = 3) (hn : 0 < n) : nearA l by' n i = nearA l by' (n - 1) (i + by') := by
  cases n with
  | zero => omega
  | succ n => conv => lhs; unfold nearA
              rw [if_pos h, if_pos h3]; rfl
def sgZ0 : Sg := ⟨0, 0, 0, 0, false, 0, false, false, ⟨0, 0, 0, 0⟩, false, 0, 0, 0, 0⟩
def frB : Option Sg → Bool
  | some s => !clr s
  | none => true
def nearS : Option Sg → Sg
  | some s => s
  | none => sgZ0
def pairB (l : List Sg) (i : Int) : Bool := decide (i + 1 < (l.length : Int)) && clr (l.getD i.toNat default) && decide ((l.getD i.toNat default).Value = 4) && clr (l.getD (i + 1).toNat default) && decide ((l.getD (i + 1).toNat default).Value = 5) &&
  !(decide (i + 2 < (l.length : Int)) && decide ((l.getD (i + 2).toNat default).Kind = 3)) && frB (nearF l (-1) (i - 1)) && frB (nearF l 1 (i + 2))
attribute [local irreducible] fullT durT mulV tmkT perfL nearA
theorem C_tactusref11_times (t : Tm) (n q : Int) (hp : 0 ≤ t.N * n ∧ t.N * n ≤ 9223372036854775807) (hq : 0 ≤ t.D * q ∧ t.D * q ≤ 9223372036854775807) : Fn Tryz.prog 84 [tmA t, iv n, iv q] (tmA (tmkT (t.N * n) (t.D * q))) := by
  refine Fn.go Tryz.func84 Tryz.ntmps84 (fun g w d => ?_)
  refine X.seq ?_
  refine X.region ?_
  refine Ex.ba ?_
  refine Ex.al ?_
  refine Ex.nil ?_
  refine X.seq ?_
  refine X.region ?_
  iterate 8 refine Ex.pu ?_
  refine Ex.ca (C_tactusref01_Make (t.N * n) (t.D * q) (by omega) (by omega)) ?_
  iterate 3 refine Ex.pu ?_
  refine Ex.al ?_
  refine Ex.mo ?_
  refine Ex.pu ?_
  refine Ex.nil ?_
  refine X.seq ?_
  refine X.region ?_
  refine Ex.pu ?_
  refine Ex.mo ?_
  refine Ex.nil ?_
  refine X.ret ?_
  refine RetQ.ret (.one (.cellA rfl rfl rfl rfl ty51 (LeV.eq ?_)))
  all_goals (rfl)
theorem C_tactusref11_dur (m : Mn) (hm : ckM m = 0) (v : Int) (h1 : 1 ≤ v) (h8 : v ≤ 8) : Fn Tryz.prog 56 [mnA m, iv v] (tmA (durT m v)) := by
  induction hn : (5 - v).toNat using Nat.strongRecOn generalizing v
  rename_i n ih
  have hf := dur_facts hm h1 h8
  have hb1 := ckT_b hf.2.2.1
  refine Fn.go Tryz.func56 Tryz.ntmps56 (fun g w d => ?_)
  refine X.seq ?_
  refine X.region ?_
  refine Ex.ba ?_
  refine Ex.al ?_
  refine Ex.nil ?_
  refine X.seq ?_
  refine X.region ?_
  iterate 2 refine Ex.pu ?_
  refine Ex.ca (C_tactusref05_FullV hm h1 h8) ?_
  iterate 3 refine Ex.pu ?_
  refine Ex.al ?_
  refine Ex.mo ?_
  refine Ex.pu ?_
  refine Ex.nil ?_
  refine X.seq ?_
  refine X.region ?_
  refine Ex.pu ?_
  refine Ex.ca (C_tactusref05_LevelsV hm) ?_
  iterate 5 refine Ex.pu ?_
  refine Ex.nil ?_
  refine X.seq ?_
  refine X.block ?_
  refine X.seq ?_
  refine X.region ?_
  iterate 3 refine Ex.pu ?_
  refine ExF.at 3 ?_
  refine ExF.pu ?_
  iterate 5 refine ExF.gi ?_
  refine ExF.cg (C_tactusref05_P m v) ?_
  iterate 2 refine ExF.gi ?_
  refine ExF.done ?_
  iterate 2 refine Ex.pu ?_
  refine Ex.nil ?_
  refine X.cd rfl (fun hc1 => ?_) (fun hc1 => ?_)
  · have hD := durT_A hm h1 h8 hc1
    refine X.seq ?_
    refine X.region ?_
    refine Ex.pu ?_
    refine Ex.ca (C_tactusref11_times (fullT m v) 2 3 (by omega) (by omega)) ?_
    refine Ex.mo ?_
    refine Ex.nil ?_
    refine X.ret ?_
    refine RetQ.ret (.one (.cellA rfl rfl rfl rfl ty51 (LeV.eq ?_)))
    all_goals (rw [hD]; rfl)
  refine X.seq ?_
  refine X.region ?_
  iterate 3 refine Ex.pu ?_
  refine Ex.nil ?_
  refine X.cd rfl (fun hc2 => ?_) (fun hc2 => ?_)
  · have hD := durT_min (pl_false hm hc1.1) hc2
    refine X.seq ?_
    refine X.region ?_
    refine Ex.pu ?_
    refine Ex.mo ?_
    refine Ex.nil ?_
    refine X.ret ?_
    refine RetQ.ret (.one (.cellA rfl rfl rfl rfl ty51 (LeV.eq ?_)))
    all_goals (rw [hD]; rfl)
  have hD := durT_C hm h1 (pl_false hm hc1.1) hc2 (by omega)
  have hf2 := dur_facts hm (show 1 ≤ v + 1 by omega) (by omega)
  have hb2 := ckT_b hf2.2.2.2.1
  refine X.skip ?_
  refine X.seq ?_
  refine X.region ?_
  iterate 3 refine Ex.pu ?_
  refine Ex.ca (ih (5 - (v + 1)).toNat (by omega) (v + 1) (by omega) (by omega) rfl) ?_
  refine Ex.ca (C_tactusref11_times (durT m (v + 1)) 2 1 (by omega) (by omega)) ?_
  refine Ex.mo ?_
  refine Ex.nil ?_
  refine X.ret ?_
  refine RetQ.ret (.one (.cellA rfl rfl rfl rfl ty51 (LeV.eq ?_)))
  all_goals (rw [hD]; rfl)
theorem C_tactusref11_Dur (m : Mn) (v : Int) : Fn Tryz.prog 32 [mnA m, iv v] (.tup [tmA (if ckMV m v = 0 then durT m v else tmZ), iv (ckMV m v)]) := by
  refine Fn.go Tryz.func32 Tryz.ntmps32 (fun g w d => ?_)
  refine X.seq ?_
  refine X.region ?_
  refine Ex.ba ?_
  refine Ex.al ?_
  refine Ex.pu ?_
  refine Ex.nil ?_
  refine X.seq ?_
  refine X.region ?_
  refine Ex.pu ?_
  refine Ex.ca (C_tactusref05_Check m) ?_
  refine Ex.pu ?_
  refine Ex.nil ?_
  refine X.seq ?_
  refine X.seq ?_
  refine X.region ?_
  iterate 2 refine Ex.pu ?_
  refine Ex.nil ?_
  refine X.cd rfl (fun hc1 => ?_) (fun hc1 => ?_)
  · have hE : ckMV m v = ckM m := by unfold ckMV ckM at *; split <;> simp_all
    refine X.seq ?_
    refine X.region ?_
    iterate 2 refine Ex.pu ?_
    refine Ex.mo ?_
    refine Ex.pu ?_
    refine Ex.nil ?_
    refine X.ret ?_
    refine RetQ.ret (.many (by decide) (.cons (.cellA rfl rfl rfl rfl ty51 (LeV.eq ?_)) (.cons (.tmp rfl (LeV.eq ?_)) .nil)))
    all_goals (first | (rw [hE]; done) | (rw [hE, if_pos rfl]; done) | (rw [hE, if_pos rfl]; rfl) | (rw [hE, if_neg hc1]; rfl) | (rw [hE]; rfl))
  refine X.skip ?_
  refine X.seq ?_
  refine X.seq ?_
  refine X.region ?_
  iterate 2 refine Ex.pu ?_
  refine ExF.at 2 ?_
  refine ExF.pu ?_
  iterate 2 refine ExF.gi ?_
  refine ExF.done ?_
  refine Ex.pu ?_
  refine Ex.nil ?_
  refine X.cd rfl (fun hc2 => ?_) (fun hc2 => ?_)
  · have hE : ckMV m v = 2 := by unfold ckM at hc1; unfold ckMV; split at hc1 <;> simp_all; omega
    refine X.seq ?_
    refine X.region ?_
    refine Ex.pu ?_
    refine Ex.mo ?_
    refine Ex.pu ?_
    refine Ex.nil ?_
    refine X.ret ?_
    refine RetQ.ret (.many (by decide) (.cons (.cellA rfl rfl rfl rfl ty51 (LeV.eq ?_)) (.cons (.tmp rfl (LeV.eq ?_)) .nil)))
    all_goals (first | (rw [hE]; done) | (rw [hE, if_pos rfl]; done) | (rw [hE, if_pos rfl]; rfl) | (rw [hE, if_neg hc1]; rfl) | (rw [hE]; rfl))
  have hE : ckMV m v = 0 := by unfold ckM at hc1; unfold ckMV; split at hc1 <;> simp_all <;> omega
  refine X.skip ?_
  refine X.seq ?_
  refine X.region ?_
  iterate 2 refine Ex.pu ?_
  refine Ex.ca (C_tactusref11_dur m hc1 v (by omega) (by omega)) ?_
  refine Ex.mo ?_
  refine Ex.pu ?_
  refine Ex.nil ?_
  refine X.ret ?_
  refine RetQ.ret (.many (by decide) (.cons (.cellA rfl rfl rfl rfl ty51 (LeV.eq ?_)) (.cons (.tmp rfl (LeV.eq ?_)) .nil)))
  all_goals (first | (rw [hE]; done) | (rw [hE, if_pos rfl]; done) | (rw [hE, if_pos rfl]; rfl) | (rw [hE, if_neg hc1]; rfl) | (rw [hE]; rfl))
end Go.Rse
