/-
  Walks: colored durations.
  Plain: the durations of the eight values under the sixteen mensurations, by going through all.
  Walks: colored durations by definition; pairs of minor color.
  Walks: pairs of minor color.
-/
import Derived.Test.YtfiiobachmglpaaGreatDoorSFull1
import Derived.Test.YtfiiobachmglpaaGreatDoorSLogC
set_option linter.unusedSimpArgs false
set_option linter.unusedVariables false
namespace Go.Rse
open Go Go.Proofs
attribute [local irreducible] Pur StepA StepM Ex X ExG Fn Imp LeV LeB FnO It YStep
def Mn.pl (m : Mn) : Bool := decide (m.Max = 2) && decide (m.Mod = 2) && decide (m.Tem = 2) && decide (m.Pro = 2)
def durR (m : Mn) : Nat -> Int -> Tm
 | 0, v => if m.pl = true then mulV (fullT m v) ⟨2, 3⟩ else fullT m v
 | n + 1, v => if m.pl = true then mulV (fullT m v) ⟨2, 3⟩ else if m.p v = 3 then mulV (fullT m v) ⟨2, 3⟩ else mulV (durR m n (v + 1)) ⟨2, 1⟩
def durT (m : Mn) (v : Int) : Tm := durR m (5 - v).toNat v
theorem durT_pl {m : Mn} {v : Int} (h : m.pl = true) : durT m v = mulV (fullT m v) ⟨2, 3⟩ := by
 unfold durT; cases (5 - v).toNat <;> simp [durR, h]
theorem durT_min {m : Mn} {v : Int} (h : m.pl = false) (h5 : 5 <= v) : durT m v = fullT m v := by
 unfold durT; rw [show (5 - v).toNat = 0 by omega]; simp [durR, h]
theorem durT_3 {m : Mn} {v : Int} (h : m.pl = false) (h5 : v < 5) (h3 : m.p v = 3) : durT m v = mulV (fullT m v) ⟨2, 3⟩ := by
 unfold durT; rw [show (5 - v).toNat = (4 - v).toNat + 1 by omega]; simp [durR, h, h3]
theorem durT_2 {m : Mn} {v : Int} (h : m.pl = false) (h5 : v < 5) (h3 : ¬ m.p v = 3) : durT m v = mulV (durT m (v + 1)) ⟨2, 1⟩ := by
 unfold durT; rw [show (5 - v).toNat = (5 - (v + 1)).toNat + 1 by omega]; simp [durR, h, h3]
theorem C_mens_FullV {m : Mn} {v : Int} (hm : ckM m = 0) (h1 : 1 <= v) (h8 : v <= 8) : Fn Tryz.prog 38 [mnA m, iv v] (.tup [tmA (fullT m v), iv 0]) := by
 have h := C_mens_Full m v
 have h0 : ckMV m v = 0 := by
  unfold ckM at hm; unfold ckMV
  split at hm
  ·rw [if_pos (by assumption), if_pos ⟨h1, h8⟩]
  ·simp at hm
 rw [h0, if_pos rfl] at h; exact h
theorem C_mens_PartsV {m : Mn} {v : Int} (hm : ckM m = 0) (h1 : 1 <= v) (h8 : v <= 8) : Fn Tryz.prog 151 [mnA m, iv v] (.tup [iv (m.p v), iv 0]) := by
 have h := C_mens_Parts m v
 have h0 : ckMV m v = 0 := by
  unfold ckM at hm; unfold ckMV
  split at hm
  ·rw [if_pos (by assumption), if_pos ⟨h1, h8⟩]
  ·simp at hm
 rw [h0, if_pos rfl] at h; exact h
attribute [local irreducible] fullT durT mulV
theorem C_color_thirds (t : Tm) : Fn Tryz.prog 173 [tmA t] (tmA (mulV t ⟨2, 3⟩)) := by
 refine Fn.go Tryz.func173 Tryz.ntmps173 (fun g w d => ?_)
 apply X.sr
 refine Ex.ba ?_
 refine Ex.al ?_
 apply Ex.ns
 iterate 2 refine Ex.pu ?_
 refine Ex.ca (C_span_Mul t ⟨2, 3⟩) ?_
 iterate 3 refine Ex.pu ?_
 refine Ex.al ?_
 refine Ex.mo ?_
 refine Ex.pu ?_
 apply Ex.ns
 refine Ex.pu ?_
 refine Ex.mo ?_
 apply Ex.nil
 refine X.ret ?_
 refine RetQ.ret (.one (.cellA rfl rfl rfl rfl ty60 (LeV.eq ?_)))
 all_goals (rfl)
theorem C_color_dur_1 (m : Mn) (hm : ckM m = 0) (v : Int) (h1 : 1 <= v) (h8 : v <= 8) : FnO Tryz.prog 172 [iv v, .ptr 2000000 0 0 0, .ptr 2000001 0 0 0, .ptr 2000002 0 0 0] [(2000000, .box (mnE m) 23), (2000001, .box [.bool m.pl] 4), (2000002, .box [.fn 172 [.ptr 2000000 0 0 0, .ptr 2000001 0 0 0, .ptr 2000002 0 0 0]] 96)] [2000000, 2000001, 2000002] (tmA (durT m v)) [(2000000, .box (mnE m) 23), (2000001, .box [.bool m.pl] 4), (2000002, .box [.fn 172 [.ptr 2000000 0 0 0, .ptr 2000001 0 0 0, .ptr 2000002 0 0 0]] 96)] := by
 induction hn : (5 - v).toNat using Nat.strongRecOn generalizing v
 rename_i n ih
 refine FnO.introX (ts := [(0, iv v), (1, .ptr 2000000 0 0 0), (2, .ptr 2000001 0 0 0), (3, .ptr 2000002 0 0 0)]) (rv := [.cell 5 60]) (n := 47) (cs := [.ptr 2000000 0 0 0, .ptr 2000001 0 0 0, .ptr 2000002 0 0 0]) (by kernel_rfl) Tryz.func172 rfl Tryz.ntmps172 rfl rfl (by simp) rfl rfl rfl rfl (fun g w d vs => ?_)
 apply X.sr
 refine Ex.al ?_
 apply Ex.ns
 iterate 2 refine Ex.pu ?_
 refine Ex.ca (C_mens_FullV hm h1 h8) ?_
 iterate 3 refine Ex.pu ?_
 refine Ex.al ?_
 refine Ex.mo ?_
 refine Ex.pu ?_
 apply Ex.ns
 iterate 2 refine Ex.pu ?_
 refine Ex.ca (C_mens_PartsV hm h1 h8) ?_
 iterate 5 refine Ex.pu ?_
 apply Ex.nil
 apply X.seq
 apply X.block
 apply X.sr
 iterate 2 refine Ex.pu ?_
 apply Ex.nil
 refine X.cd rfl (fun hc1 => ?_) (fun hc1 => ?_)
 ·have hD := durT_pl (v := v) hc1
  apply X.sr
  refine Ex.pu ?_
  refine Ex.ca (C_color_thirds _) ?_
  refine Ex.mo ?_
  apply Ex.nil
  refine X.ret ?_
  refine RetQX.mk [(5, .ptr 5 0 0 0)] [(5, .box (tmE (mulV (fullT m v) ⟨2, 3⟩)) 60)] (.inr rfl) (.one (.cellA rfl rfl rfl rfl ty60 (LeV.eq ?_)))
  all_goals (rw [hD])
 apply X.sr
 iterate 3 refine Ex.pu ?_
 apply Ex.nil
 refine X.cd rfl (fun hc2 => ?_) (fun hc2 => ?_)
 ·have hD := durT_min hc1 hc2
  apply X.sr
  refine Ex.pu ?_
  refine Ex.mo ?_
  apply Ex.nil
  refine X.ret ?_
  refine RetQX.mk [(5, .ptr 5 0 0 0)] [(5, .box (tmE (fullT m v)) 60)] (.inr rfl) (.one (.cellA rfl rfl rfl rfl ty60 (LeV.eq ?_)))
  all_goals (rw [hD])
 apply X.sr
 iterate 3 refine Ex.pu ?_
 apply Ex.nil
 refine X.cd rfl (fun hc3 => ?_) (fun hc3 => ?_)
 ·have hD := durT_3 hc1 hc2 hc3
  apply X.sr
  refine Ex.pu ?_
  refine Ex.ca (C_color_thirds _) ?_
  refine Ex.mo ?_
  apply Ex.nil
  refine X.ret ?_
  refine RetQX.mk [(5, .ptr 5 0 0 0)] [(5, .box (tmE (mulV (fullT m v) ⟨2, 3⟩)) 60)] (.inr rfl) (.one (.cellA rfl rfl rfl rfl ty60 (LeV.eq ?_)))
  all_goals (rw [hD])
 have hD := durT_2 hc1 hc2 hc3
 apply X.skip
 apply X.sr
 iterate 3 refine Ex.pu ?_
 refine Ex.co [(2000000, 2000000), (2000001, 2000001), (2000002, 2000002)] (ih (5 - (v + 1)).toNat (by omega) (v + 1) (by omega) (by omega) rfl) ?_
 refine Ex.pu ?_
 refine Ex.ca (C_span_Mul (durT m (v + 1)) ⟨2, 1⟩) ?_
 iterate 3 refine Ex.pu ?_
 refine Ex.al ?_
 refine Ex.mo ?_
 refine Ex.pu ?_
 apply Ex.ns
 refine Ex.pu ?_
 refine Ex.mo ?_
 apply Ex.nil
 refine X.ret ?_
 refine RetQX.mk [(5, .ptr 5 0 0 0)] [(5, .box (tmE (mulV (durT m (v + 1)) ⟨2, 1⟩)) 60)] (.inr rfl) (.one (.cellA rfl rfl rfl rfl ty60 (LeV.eq ?_)))
 all_goals (rw [hD])
theorem C_color_dur (m : Mn) (hm : ckM m = 0) (v : Int) (h1 : 1 <= v) (h8 : v <= 8) : Fn Tryz.prog 99 [mnA m, iv v] (tmA (durT m v)) := by
 have hpl : (decide (m.Max = 2) && decide (m.Mod = 2) && decide (m.Tem = 2) && decide (m.Pro = 2)) = m.pl := by unfold Mn.pl; rfl
 refine Fn.go Tryz.func99 Tryz.ntmps99 (fun g w d => ?_)
 apply X.sr
 refine Ex.ba ?_
 refine Ex.al ?_
 apply Ex.ns
 iterate 3 refine Ex.pu ?_
 refine ExF.at 3 ?_
 refine ExF.pu ?_
 iterate 3 refine ExF.gi ?_
 iterate 2 refine ExF.pu ?_
 iterate 3 refine ExF.gi ?_
 iterate 2 refine ExF.pu ?_
 iterate 3 refine ExF.gi ?_
 refine ExF.done ?_
 refine Ex.pu ?_
 refine Ex.al ?_
 refine Ex.mo ?_
 apply Ex.ns
 refine Ex.al ?_
 apply Ex.ns
 refine Ex.pu ?_
 refine Ex.mo ?_
 apply Ex.ns
 iterate 2 refine Ex.pu ?_
 refine Ex.co [(2000000, 2), (2000001, 5), (2000002, 6)] (C_color_dur_1 m hm v h1 h8) ?_
 refine Ex.mo ?_
 apply Ex.nil
 refine X.ret ?_
 refine RetQ.ret (.one (.cellA rfl rfl rfl rfl ty60 (LeV.eq ?_)))
 all_goals (rfl)
theorem C_color_Dur (m : Mn) (v : Int) : Fn Tryz.prog 39 [mnA m, iv v] (.tup [tmA (if ckMV m v = 0 then durT m v else tmZ), iv (ckMV m v)]) := by
 refine Fn.go Tryz.func39 Tryz.ntmps39 (fun g w d => ?_)
 apply X.sr
 refine Ex.ba ?_
 refine Ex.al ?_
 refine Ex.pu ?_
 apply Ex.nil
 apply X.seq
 apply X.sr
 refine Ex.pu ?_
 refine Ex.ca (C_mens_Check m) ?_
 refine Ex.pu ?_
 apply Ex.ns
 iterate 2 refine Ex.pu ?_
 apply Ex.nil
 refine X.cd rfl (fun hc1 => ?_) (fun hc1 => ?_)
 ·have hE : ckMV m v = ckM m := by unfold ckMV ckM at *; split <;> simp_all
  apply X.sr
  iterate 2 refine Ex.pu ?_
  refine Ex.mo ?_
  refine Ex.pu ?_
  apply Ex.nil
  refine X.ret ?_
  refine RetQ.ret (.many (by decide) (.cons (.cellA rfl rfl rfl rfl ty60 (LeV.eq ?_)) (.cons (.tmp rfl (LeV.eq ?_)) .nil)))
  all_goals (first | (rw [hE]; done) | (rw [hE, if_pos rfl]; done) | (rw [hE, if_pos rfl]; rfl) | (rw [hE, if_neg hc1]; rfl) | (rw [hE]; rfl))
 apply X.skip
 apply X.seq
 apply X.sr
 iterate 2 refine Ex.pu ?_
 refine ExF.at 2 ?_
 refine ExF.pu ?_
 iterate 2 refine ExF.gi ?_
 refine ExF.done ?_
 refine Ex.pu ?_
 apply Ex.nil
 refine X.cd rfl (fun hc2 => ?_) (fun hc2 => ?_)
 ·have hE : ckMV m v = 2 := by unfold ckM at hc1; unfold ckMV; split at hc1 <;> simp_all; omega
  apply X.sr
  refine Ex.pu ?_
  refine Ex.mo ?_
  refine Ex.pu ?_
  apply Ex.nil
  refine X.ret ?_
  refine RetQ.ret (.many (by decide) (.cons (.cellA rfl rfl rfl rfl ty60 (LeV.eq ?_)) (.cons (.tmp rfl (LeV.eq ?_)) .nil)))
  all_goals (first | (rw [hE]; done) | (rw [hE, if_pos rfl]; done) | (rw [hE, if_pos rfl]; rfl) | (rw [hE, if_neg hc1]; rfl) | (rw [hE]; rfl))
 have hE : ckMV m v = 0 := by unfold ckM at hc1; unfold ckMV; split at hc1 <;> simp_all <;> omega
 apply X.skip
 apply X.sr
 iterate 2 refine Ex.pu ?_
 refine Ex.ca (C_color_dur m hc1 v (by omega) (by omega)) ?_
 refine Ex.mo ?_
 refine Ex.pu ?_
 apply Ex.nil
 refine X.ret ?_
 refine RetQ.ret (.many (by decide) (.cons (.cellA rfl rfl rfl rfl ty60 (LeV.eq ?_)) (.cons (.tmp rfl (LeV.eq ?_)) .nil)))
 all_goals (first | (rw [hE]; done) | (rw [hE, if_pos rfl]; done) | (rw [hE, if_pos rfl]; rfl) | (rw [hE, if_neg hc1]; rfl) | (rw [hE]; rfl))
end Go.Rse
namespace Go.Rse
open Go Go.Proofs
def ckAll (f : Mn -> Int -> Bool) : Bool := ([2, 3] : List Int).all fun a => ([2, 3] : List Int).all fun b => ([2, 3] : List Int).all fun c => ([2, 3] : List Int).all fun e => ([1, 2, 3, 4, 5, 6, 7, 8] : List Int).all fun v => f ⟨a, b, c, e⟩ v
theorem ckAll_use {f : Mn -> Int -> Bool} (h : ckAll f = true) {m : Mn} {v : Int} (hm : ckM m = 0) (h1 : 1 <= v) (h8 : v <= 8) : f m v = true := by
 have ho : m.Ok := by
  unfold ckM at hm; split at hm
  ·assumption
  ·simp at hm
 obtain ⟨a, b, c, e⟩ := m
 have hv : v ∈ ([1, 2, 3, 4, 5, 6, 7, 8] : List Int) := by simp; omega
 have h2 : ∀ x : Int, two3 x -> x ∈ ([2, 3] : List Int) := fun x hx => by simpa [two3] using hx
 unfold ckAll at h
 exact List.all_eq_true.1 (List.all_eq_true.1 (List.all_eq_true.1 (List.all_eq_true.1 (List.all_eq_true.1 h a (h2 _ ho.1)) b (h2 _ ho.2.1)) c (h2 _ ho.2.2.1)) e (h2 _ ho.2.2.2)) v hv
end Go.Rse
namespace Go.Rse
open Go Go.Proofs
attribute [local irreducible] Pur StepA StepM Ex X ExG Fn Imp LeV LeB FnO It YStep
theorem ckMV_0 {m : Mn} {v : Int} (hm : ckM m = 0) (h1 : 1 <= v) (h8 : v <= 8) : ckMV m v = 0 := by
 unfold ckM at hm; unfold ckMV
 split at hm
 ·rw [if_pos (by assumption), if_pos ⟨h1, h8⟩]
 ·simp at hm
def clr (s : Sg) : Bool := decide (s.Kind = 1) && s.Color
def nearA (l : List Sg) (by' : Int) : Nat -> Int -> Option Sg
 | 0, _ => none
 | n + 1, i => if 0 <= i /\ i < (l.length : Int) then (if (l.getD i.toNat default).Kind = 3 then nearA l by' n (i + by') else some (l.getD i.toNat default)) else none
def nearF (l : List Sg) (by' i : Int) : Option Sg := nearA l by' (l.length + 2) i
theorem nearA_out {l : List Sg} {by' : Int} {n : Nat} {i : Int} (h : ¬ (0 <= i /\ i < (l.length : Int))) : nearA l by' n i = none := by
 cases n with
 | zero => rfl
 | succ n => unfold nearA; rw [if_neg h]
theorem nearA_hit {l : List Sg} {by' : Int} {n : Nat} {i : Int} (h : 0 <= i /\ i < (l.length : Int)) (h3 : ¬ (l.getD i.toNat default).Kind = 3) (hn : 0 < n) : nearA l by' n i = some (l.getD i.toNat default) := by
 cases n with
 | zero => omega
 | succ n => unfold nearA; rw [if_pos h, if_neg h3]
theorem nearA_go {l : List Sg} {by' : Int} {n : Nat} {i : Int} (h : 0 <= i /\ i < (l.length : Int)) (h3 : (l.getD i.toNat default).Kind = 3) (hn : 0 < n) : nearA l by' n i = nearA l by' (n - 1) (i + by') := by
 cases n with
 | zero => omega
 | succ n => conv => lhs; unfold nearA
             rw [if_pos h, if_pos h3]; rfl
def frB : Option Sg -> Bool
 | some s => !clr s
 | none => true
def pairB (l : List Sg) (i : Int) : Bool := decide (i + 1 < (l.length : Int)) && clr (l.getD i.toNat default) && decide ((l.getD i.toNat default).Value = 4) && clr (l.getD (i + 1).toNat default) && decide ((l.getD (i + 1).toNat default).Value = 5) &&
 !(decide (i + 2 < (l.length : Int)) && decide ((l.getD (i + 2).toNat default).Kind = 3)) && frB (nearF l (-1) (i - 1)) && frB (nearF l 1 (i + 2))
attribute [local irreducible] fullT durT mulV tmkT perfL nearA
theorem C_color_colored (s : Sg) : Fn Tryz.prog 154 [sgA s] (.bool (clr s)) := by
 refine Fn.go Tryz.func154 Tryz.ntmps154 (fun g w d => ?_)
 apply X.sr
 refine Ex.ba ?_
 refine Ex.pu ?_
 apply Ex.ns
 iterate 3 refine Ex.pu ?_
 refine ExF.at 3 ?_
 refine ExF.pu ?_
 iterate 2 refine ExF.gi ?_
 refine ExF.done ?_
 iterate 2 refine Ex.pu ?_
 apply Ex.nil
 refine X.ret ?_
 refine RetQ.ret (.one (.tmp rfl (LeV.eq ?_)))
 all_goals (rfl)
theorem C_color_free (l : List Sg) (hl : l.length <= 4000000000) (i b : Int) (hb : b = 1 \/ b = -1) (h0 : -2 <= i) (h1 : i <= (l.length : Int) + 2) (h2 : b = -1 -> i <= (l.length : Int) + 1) : Fn Tryz.prog 230 [sgsA l, iv i, iv b] (.bool (frB (nearF l b i))) := by
 refine Fn.go Tryz.func230 Tryz.ntmps230 (fun g w d => ?_)
 apply X.sr
 refine Ex.pu ?_
 apply Ex.nil
 apply X.seq
 apply X.block
 refine X.lp (ι := Nat × Int) (fun (p : Nat × Int) => [(0, sgsA l), (1, iv p.2), (2, iv b)]) (fun (p : Nat × Int) => []) (fun (p : Nat × Int) => nearA l b (l.length + 2) i = nearA l b p.1 p.2 /\ ((b = 1 /\ (l.length : Int) - p.2 <= (p.1 : Int)) \/ (b = -1 /\ p.2 + 1 <= (p.1 : Int))) /\ -3 <= p.2 /\ p.2 <= (l.length : Int) + 3) (fun (p : Nat × Int) => p.1) (l.length + 2, i) (fun p hk => ?_) (hJ := by
  exact ⟨rfl, by dsimp only; omega, by dsimp only; omega, by dsimp only; omega⟩)
 obtain ⟨n, j⟩ := p
 obtain ⟨k1, k2, k3, k4⟩ := hk
 dsimp only at *
 apply X.seq
 apply X.sr
 iterate 2 refine Ex.pu ?_
 refine ExF.at 2 ?_
 refine ExF.pu ?_
 iterate 4 refine ExF.gi ?_
 refine ExF.done ?_
 refine Ex.pu ?_
 apply Ex.nil
 refine X.cd rfl (fun hc1 => ?_) (fun hc1 => ?_)
 ·apply X.skip
  apply X.seq
  apply X.block
  apply X.sr
  iterate 6 refine Ex.pu ?_
  apply Ex.nil
  refine X.cd rfl (fun hc2 => ?_) (fun hc2 => ?_)
  ·apply X.sr
   iterate 4 refine Ex.pu ?_
   refine Ex.ca (C_color_colored _) ?_
   iterate 2 refine Ex.pu ?_
   apply Ex.nil
   refine X.ret ?_
   refine RetQ.ret (.one (.tmp rfl (LeV.eq ?_)))
   all_goals (unfold nearF; rw [k1, nearA_hit hc1 hc2 (by omega)]; rfl)
  apply X.skip
  apply X.region
  iterate 4 refine Ex.pu ?_
  apply Ex.nil
  refine X.bk ((n - 1, j + b)) (hJ := by
   exact ⟨by rw [k1, nearA_go hc1 hc2 (by omega)], by dsimp only; omega, by dsimp only; omega, by dsimp only; omega⟩) (hm := by dsimp only; omega)
 ·apply X.exit
  apply X.sr
  refine Ex.pu ?_
  apply Ex.nil
  refine X.ret ?_
  refine RetQ.ret (.one (.tmp rfl (LeV.eq ?_)))
  all_goals (unfold nearF; rw [k1, nearA_out (by omega)]; rfl)
end Go.Rse
namespace Go.Rse
open Go Go.Proofs
attribute [local irreducible] Pur StepA StepM Ex X ExG Fn Imp LeV LeB FnO It YStep
theorem pairB_no {l : List Sg} {i : Int} (h : (((((l.length : Int) <= i + 1 \/ clr (l.getD i.toNat default) = false) \/ ¬ (l.getD i.toNat default).Value = 4) \/ clr (l.getD (i + 1).toNat default) = false) \/ ¬ (l.getD (i + 1).toNat default).Value = 5)) : pairB l i = false := by
 unfold pairB
 rcases h with (((h | h) | h) | h) | h
 ·rw [decide_eq_false (show ¬ i + 1 < (l.length : Int) by omega)]; simp
 ·rw [h]; simp
 ·rw [decide_eq_false h]; simp
 ·rw [h]; simp
 ·rw [decide_eq_false h]; simp
theorem pairB_yes {l : List Sg} {i : Int} (h : (((i + 1 < (l.length : Int) /\ clr (l.getD i.toNat default) = true) /\ (l.getD i.toNat default).Value = 4) /\ clr (l.getD (i + 1).toNat default) = true) /\ (l.getD (i + 1).toNat default).Value = 5) : pairB l i = (!(decide (i + 2 < (l.length : Int)) && decide ((l.getD (i + 2).toNat default).Kind = 3)) && frB (nearF l (-1) (i - 1)) && frB (nearF l 1 (i + 2))) := by
 unfold pairB
 rw [decide_eq_true h.1.1.1.1, h.1.1.1.2, decide_eq_true h.1.1.2, h.1.2, decide_eq_true h.2]; rfl
attribute [local irreducible] pairB nearF frB clr
theorem C_color_pair (l : List Sg) (hl : l.length <= 4000000000) (i : Int) (h0 : 0 <= i) (h1 : i < (l.length : Int)) : Fn Tryz.prog 170 [sgsA l, iv i] (.bool (pairB l i)) := by
 refine Fn.go Tryz.func170 Tryz.ntmps170 (fun g w d => ?_)
 apply X.sr
 refine Ex.pu ?_
 apply Ex.nil
 apply X.seq
 apply X.sr
 iterate 5 refine Ex.pu ?_
 refine ExF.at 5 ?_
 refine ExF.pu ?_
 iterate 4 refine ExF.gi ?_
 refine ExF.cg (C_color_colored _) ?_
 refine ExF.gi ?_
 iterate 2 refine ExF.pu ?_
 iterate 6 refine ExF.gi ?_
 iterate 2 refine ExF.pu ?_
 iterate 5 refine ExF.gi ?_
 refine ExF.cg (C_color_colored _) ?_
 refine ExF.gi ?_
 iterate 2 refine ExF.pu ?_
 iterate 7 refine ExF.gi ?_
 refine ExF.done ?_
 refine Ex.pu ?_
 apply Ex.nil
 refine X.cd rfl (fun hc1 => ?_) (fun hc1 => ?_)
 ·apply X.sr
  refine Ex.pu ?_
  apply Ex.nil
  refine X.ret ?_
  refine RetQ.ret (.one (.tmp rfl (LeV.eq ?_)))
  all_goals (rw [pairB_no hc1])
 apply X.skip
 apply X.sr
 iterate 5 refine Ex.pu ?_
 refine ExF.at 5 ?_
 refine ExF.pu ?_
 iterate 7 refine ExF.gi ?_
 refine ExF.done ?_
 iterate 2 refine Ex.pu ?_
 apply Ex.ns
 iterate 2 refine Ex.pu ?_
 refine ExF.at 2 ?_
 refine ExF.pu ?_
 iterate 3 refine ExF.gi ?_
 refine ExF.cg (C_color_free l hl (i - 1) (-1) (.inr rfl) (by omega) (by omega) (by omega)) ?_
 iterate 2 refine ExF.pu ?_
 iterate 3 refine ExF.gi ?_
 refine ExF.cg (C_color_free l hl (i + 2) 1 (.inl rfl) (by omega) (by omega) (by omega)) ?_
 refine ExF.done ?_
 iterate 2 refine Ex.pu ?_
 apply Ex.nil
 refine X.ret ?_
 refine RetQ.ret (.one (.tmp rfl (LeV.eq ?_)))
 all_goals (rw [pairB_yes hc1])
end Go.Rse
