/-
  Walks: colored durations.
  Plain: the durations of the eight values under the sixteen mensurations, by going through all.
  Walks: colored durations by definition; pairs of minor color.
  Walks: pairs of minor color.
-/
import Derived.Test.YtfiiobachmglpaaGreatDoorDJRef1
import Derived.Test.YtfiiobachmglpaaGreatDoorDLogC
import Derived.Test.YtfiiobachmglpaaGreatDoorDDotB
import Derived.Test.YtfiiobachmglpaaGreatDoorDLogB
set_option linter.unusedSimpArgs false
set_option linter.unusedVariables false
namespace Go.Rse
open Go Go.Proofs
attribute [local irreducible] Pur StepA StepM Ex X Fn Imp LeV LeB FnO It YStep
def Mn.pl (m : Mn) : Bool := decide (m.Max = 2) && decide (m.Mod = 2) && decide (m.Tem = 2) && decide (m.Pro = 2)
def durR (m : Mn) : Nat -> Int -> Tm
 | 0, v => if m.pl = true then mulV (fullT m v) ⟨2, 3⟩ else fullT m v
 | n + 1, v => if m.pl = true then mulV (fullT m v) ⟨2, 3⟩ else if m.p v = 3 then mulV (fullT m v) ⟨2, 3⟩ else mulV (durR m n (v + 1)) ⟨2, 1⟩
def durT (m : Mn) (v : Int) : Tm := durR m (5 - v).toNat v
theorem zlk {m : Mn} {v : Int} (h : m.pl = true) : durT m v = mulV (fullT m v) ⟨2, 3⟩ := by
 unfold durT; cases (5 - v).toNat <;> simp [durR, h]
theorem zj1 {m : Mn} {v : Int} (h : m.pl = false) (h5 : 5 <= v) : durT m v = fullT m v := by
 unfold durT; rw [show (5 - v).toNat = 0 by omega]; simp [durR, h]
theorem zmW {m : Mn} {v : Int} (h : m.pl = false) (h5 : v < 5) (h3 : m.p v = 3) : durT m v = mulV (fullT m v) ⟨2, 3⟩ := by
 unfold durT; rw [show (5 - v).toNat = (4 - v).toNat + 1 by omega]; simp [durR, h, h3]
theorem zmX {m : Mn} {v : Int} (h : m.pl = false) (h5 : v < 5) (h3 : ¬ m.p v = 3) : durT m v = mulV (durT m (v + 1)) ⟨2, 1⟩ := by
 unfold durT; rw [show (5 - v).toNat = (5 - (v + 1)).toNat + 1 by omega]; simp [durR, h, h3]
theorem zco {m : Mn} {v : Int} (hm : ckM m = 0) (h1 : 1 <= v) (h8 : v <= 8) : Fn Tryz.prog 38 [mnA m, iv v] (.tup [tmA (fullT m v), iv 0]) := by
 have h := zg5 m v
 have h0 : ckMV m v = 0 := by
  unfold ckM at hm; unfold ckMV
  split at hm
  ·rw [if_pos (by assumption), if_pos ⟨h1, h8⟩]
  ·simp at hm
 rw [h0, if_pos rfl] at h; exact h
theorem zfA {m : Mn} {v : Int} (hm : ckM m = 0) (h1 : 1 <= v) (h8 : v <= 8) : Fn Tryz.prog 151 [mnA m, iv v] (.tup [iv (m.p v), iv 0]) := by
 have h := zcI m v
 have h0 : ckMV m v = 0 := by
  unfold ckM at hm; unfold ckMV
  split at hm
  ·rw [if_pos (by assumption), if_pos ⟨h1, h8⟩]
  ·simp at hm
 rw [h0, if_pos rfl] at h; exact h
attribute [local irreducible] fullT durT mulV
theorem zc5 (t : Tm) : Fn Tryz.prog 173 [tmA t] (tmA (mulV t ⟨2, 3⟩)) := by
 refine Fn.go Tryz.func173 Tryz.ntmps173 (fun g w d => ?_)
 apply X.sr
 refine Ex.ba ?_
 refine Ex.al ?_
 apply Ex.ns
 iterate 2 refine Ex.pu ?_
 refine Ex.ca (zd7 t ⟨2, 3⟩) ?_
 iterate 3 refine Ex.pu ?_
 refine Ex.al ?_
 refine Ex.mo ?_
 refine Ex.pu ?_
 apply Ex.ns
 refine Ex.pu ?_
 refine Ex.mo ?_
 apply Ex.nil
 refine X.ret ?_
 refine RetQ.ret (.one (.cellA rfl rfl rfl rfl ty60 (LeV.eq ?_)))
 all_goals (rfl)
theorem zfB (m : Mn) (hm : ckM m = 0) (v : Int) (h1 : 1 <= v) (h8 : v <= 8) : FnO Tryz.prog 172 [iv v, .ptr 2000000 0 0 0, .ptr 2000001 0 0 0, .ptr 2000002 0 0 0] [(2000000, .box (mnE m) 23), (2000001, .box [.bool m.pl] 4), (2000002, .box [.fn 172 [.ptr 2000000 0 0 0, .ptr 2000001 0 0 0, .ptr 2000002 0 0 0]] 96)] [2000000, 2000001, 2000002] (tmA (durT m v)) [(2000000, .box (mnE m) 23), (2000001, .box [.bool m.pl] 4), (2000002, .box [.fn 172 [.ptr 2000000 0 0 0, .ptr 2000001 0 0 0, .ptr 2000002 0 0 0]] 96)] := by
 induction hn : (5 - v).toNat using Nat.strongRecOn generalizing v
 rename_i n ih
 refine FnO.introX (ts := [(0, iv v), (1, .ptr 2000000 0 0 0), (2, .ptr 2000001 0 0 0), (3, .ptr 2000002 0 0 0)]) (rv := [.cell 5 60]) (n := 47) (cs := [.ptr 2000000 0 0 0, .ptr 2000001 0 0 0, .ptr 2000002 0 0 0]) (by kernel_rfl) Tryz.func172 rfl Tryz.ntmps172 rfl rfl (by simp) rfl rfl rfl rfl (fun g w d vs => ?_)
 apply X.sr
 refine Ex.al ?_
 apply Ex.ns
 iterate 2 refine Ex.pu ?_
 refine Ex.ca (zco hm h1 h8) ?_
 iterate 3 refine Ex.pu ?_
 refine Ex.al ?_
 refine Ex.mo ?_
 refine Ex.pu ?_
 apply Ex.ns
 iterate 2 refine Ex.pu ?_
 refine Ex.ca (zfA hm h1 h8) ?_
 iterate 4 refine Ex.pu ?_
 refine Ex.pn ?_
 apply X.seq
 apply X.block
 apply X.sr
 refine Ex.pu ?_
 refine Ex.pn ?_
 refine X.cd rfl ?_ ?_<;>intro hc1
 ·have hD := zlk (v := v) hc1
  apply X.sr
  refine Ex.pu ?_
  refine Ex.ca (zc5 _) ?_
  refine Ex.mo ?_
  apply Ex.nil
  refine X.ret ?_
  refine RetQX.mk [(5, .ptr 5 0 0 0)] [(5, .box (tmE (mulV (fullT m v) ⟨2, 3⟩)) 60)] (.inr rfl) (.one (.cellA rfl rfl rfl rfl ty60 (LeV.eq ?_)))
  all_goals (rw [hD])
 apply X.sr
 iterate 2 refine Ex.pu ?_
 refine Ex.pn ?_
 refine X.cd rfl ?_ ?_<;>intro hc2
 ·have hD := zj1 hc1 hc2
  apply X.sr
  refine Ex.pu ?_
  refine Ex.mo ?_
  apply Ex.nil
  refine X.ret ?_
  refine RetQX.mk [(5, .ptr 5 0 0 0)] [(5, .box (tmE (fullT m v)) 60)] (.inr rfl) (.one (.cellA rfl rfl rfl rfl ty60 (LeV.eq ?_)))
  all_goals (rw [hD])
 apply X.sr
 iterate 2 refine Ex.pu ?_
 refine Ex.pn ?_
 refine X.cd rfl ?_ ?_<;>intro hc3
 ·have hD := zmW hc1 hc2 hc3
  apply X.sr
  refine Ex.pu ?_
  refine Ex.ca (zc5 _) ?_
  refine Ex.mo ?_
  apply Ex.nil
  refine X.ret ?_
  refine RetQX.mk [(5, .ptr 5 0 0 0)] [(5, .box (tmE (mulV (fullT m v) ⟨2, 3⟩)) 60)] (.inr rfl) (.one (.cellA rfl rfl rfl rfl ty60 (LeV.eq ?_)))
  all_goals (rw [hD])
 have hD := zmX hc1 hc2 hc3
 apply X.skip
 apply X.sr
 iterate 3 refine Ex.pu ?_
 refine Ex.co [(2000000, 2000000), (2000001, 2000001), (2000002, 2000002)] (ih (5 - (v + 1)).toNat (by omega) (v + 1) (by omega) (by omega) rfl) ?_
 refine Ex.pu ?_
 refine Ex.ca (zd7 (durT m (v + 1)) ⟨2, 1⟩) ?_
 iterate 3 refine Ex.pu ?_
 refine Ex.al ?_
 refine Ex.mo ?_
 refine Ex.pu ?_
 apply Ex.ns
 refine Ex.pu ?_
 refine Ex.mo ?_
 apply Ex.nil
 refine X.ret ?_
 refine RetQX.mk [(5, .ptr 5 0 0 0)] [(5, .box (tmE (mulV (durT m (v + 1)) ⟨2, 1⟩)) 60)] (.inr rfl) (.one (.cellA rfl rfl rfl rfl ty60 (LeV.eq ?_)))
 all_goals (rw [hD])
theorem zgW (m : Mn) (hm : ckM m = 0) (v : Int) (h1 : 1 <= v) (h8 : v <= 8) : Fn Tryz.prog 99 [mnA m, iv v] (tmA (durT m v)) := by
 have hpl : (decide (m.Max = 2) && decide (m.Mod = 2) && decide (m.Tem = 2) && decide (m.Pro = 2)) = m.pl := by unfold Mn.pl; rfl
 refine Fn.go Tryz.func99 Tryz.ntmps99 (fun g w d => ?_)
 apply X.sr
 refine Ex.ba ?_
 refine Ex.al ?_
 apply Ex.ns
 iterate 3 refine Ex.pu ?_
 refine ExF.at 3 ?_
 refine ExF.pu ?_
 iterate 3 refine ExF.gi ?_
 iterate 2 refine ExF.pu ?_
 iterate 3 refine ExF.gi ?_
 iterate 2 refine ExF.pu ?_
 iterate 3 refine ExF.gi ?_
 refine ExF.done ?_
 refine Ex.pu ?_
 refine Ex.al ?_
 refine Ex.mo ?_
 apply Ex.ns
 refine Ex.al ?_
 apply Ex.ns
 refine Ex.pu ?_
 refine Ex.mo ?_
 apply Ex.ns
 iterate 2 refine Ex.pu ?_
 refine Ex.co [(2000000, 2), (2000001, 5), (2000002, 6)] (zfB m hm v h1 h8) ?_
 refine Ex.mo ?_
 apply Ex.nil
 refine X.ret ?_
 refine RetQ.ret (.one (.cellA rfl rfl rfl rfl ty60 (LeV.eq ?_)))
 all_goals (rfl)
end Go.Rse
namespace Go.Rse
open Go Go.Proofs
def ckAll (f : Mn -> Int -> Bool) : Bool := ([2, 3] : List Int).all fun a => ([2, 3] : List Int).all fun b => ([2, 3] : List Int).all fun c => ([2, 3] : List Int).all fun e => ([1, 2, 3, 4, 5, 6, 7, 8] : List Int).all fun v => f ⟨a, b, c, e⟩ v
theorem zis {f : Mn -> Int -> Bool} (h : ckAll f = true) {m : Mn} {v : Int} (hm : ckM m = 0) (h1 : 1 <= v) (h8 : v <= 8) : f m v = true := by
 have ho : m.Ok := by
  unfold ckM at hm; split at hm
  ·assumption
  ·simp at hm
 obtain ⟨a, b, c, e⟩ := m
 have hv : v ∈ ([1, 2, 3, 4, 5, 6, 7, 8] : List Int) := by simp; omega
 have h2 : ∀ x : Int, two3 x -> x ∈ ([2, 3] : List Int) := fun x hx => by simpa [two3] using hx
 unfold ckAll at h
 exact List.all_eq_true.1 (List.all_eq_true.1 (List.all_eq_true.1 (List.all_eq_true.1 (List.all_eq_true.1 h a (h2 _ ho.1)) b (h2 _ ho.2.1)) c (h2 _ ho.2.2.1)) e (h2 _ ho.2.2.2)) v hv
end Go.Rse
namespace Go.Rse
open Go Go.Proofs
attribute [local irreducible] Pur StepA StepM Ex X Fn Imp LeV LeB FnO It YStep
theorem zmY {m : Mn} {v : Int} (hm : ckM m = 0) (h1 : 1 <= v) (h8 : v <= 8) : ckMV m v = 0 := by
 unfold ckM at hm; unfold ckMV
 split at hm
 ·rw [if_pos (by assumption), if_pos ⟨h1, h8⟩]
 ·simp at hm
theorem zde {m : Mn} {v : Int} (hm : ckM m = 0) (h1 : 1 <= v) (h8 : v <= 8) : Fn Tryz.prog 206 [mnA m, iv v] (.tup [tmA (fullT m v), iv 0]) := by
 have h := zdy m v
 rw [zmY hm h1 h8, if_pos rfl] at h; exact h
def clr (s : Sg) : Bool := decide (s.Kind = 1) && s.Color
def nearA (l : List Sg) (by' : Int) : Nat -> Int -> Option Sg
 | 0, _ => none
 | n + 1, i => if 0 <= i /\ i < (l.length : Int) then (if (l.getD i.toNat default).Kind = 3 then nearA l by' n (i + by') else some (l.getD i.toNat default)) else none
def nearF (l : List Sg) (by' i : Int) : Option Sg := nearA l by' (l.length + 2) i
theorem zit {l : List Sg} {by' : Int} {n : Nat} {i : Int} (h : ¬ (0 <= i /\ i < (l.length : Int))) : nearA l by' n i = none := by
 cases n with
 | zero => rfl
 | succ n => unfold nearA; rw [if_neg h]
theorem ziu {l : List Sg} {by' : Int} {n : Nat} {i : Int} (h : 0 <= i /\ i < (l.length : Int)) (h3 : ¬ (l.getD i.toNat default).Kind = 3) (hn : 0 < n) : nearA l by' n i = some (l.getD i.toNat default) := by
 cases n with
 | zero => omega
 | succ n => unfold nearA; rw [if_pos h, if_neg h3]
theorem zj2 {l : List Sg} {by' : Int} {n : Nat} {i : Int} (h : 0 <= i /\ i < (l.length : Int)) (h3 : (l.getD i.toNat default).Kind = 3) (hn : 0 < n) : nearA l by' n i = nearA l by' (n - 1) (i + by') := by
 cases n with
 | zero => omega
 | succ n => conv => lhs; unfold nearA
             rw [if_pos h, if_pos h3]; rfl
def frB : Option Sg -> Bool
 | some s => !clr s
 | none => true
def pairB (l : List Sg) (i : Int) : Bool := decide (i + 1 < (l.length : Int)) && clr (l.getD i.toNat default) && decide ((l.getD i.toNat default).Value = 4) && clr (l.getD (i + 1).toNat default) && decide ((l.getD (i + 1).toNat default).Value = 5) &&
 !(decide (i + 2 < (l.length : Int)) && decide ((l.getD (i + 2).toNat default).Kind = 3)) && frB (nearF l (-1) (i - 1)) && frB (nearF l 1 (i + 2))
attribute [local irreducible] fullT durT mulV tmkT perfL nearA
theorem za0 (s : Sg) : Fn Tryz.prog 154 [sgA s] (.bool (clr s)) := by
 refine Fn.go Tryz.func154 Tryz.ntmps154 (fun g w d => ?_)
 apply X.sr
 refine Ex.ba ?_
 refine Ex.pu ?_
 apply Ex.ns
 iterate 3 refine Ex.pu ?_
 refine ExF.at 3 ?_
 refine ExF.pu ?_
 iterate 2 refine ExF.gi ?_
 refine ExF.done ?_
 refine Ex.pu ?_
 refine Ex.pn ?_
 refine X.ret ?_
 refine RetQ.r1 ?_
 all_goals (rfl)
theorem zd8 (l : List Sg) (hl : l.length <= 4000000000) (i b : Int) (hb : b = 1 \/ b = -1) (h0 : -2 <= i) (h1 : i <= (l.length : Int) + 2) (h2 : b = -1 -> i <= (l.length : Int) + 1) : Fn Tryz.prog 230 [sgsA l, iv i, iv b] (.bool (frB (nearF l b i))) := by
 refine Fn.go Tryz.func230 Tryz.ntmps230 (fun g w d => ?_)
 apply X.sr
 refine Ex.pn ?_
 apply X.seq
 apply X.block
 refine X.lp (ι := Nat × Int) (fun (p : Nat × Int) => [(0, sgsA l), (1, iv p.2), (2, iv b)]) (fun (p : Nat × Int) => []) (fun (p : Nat × Int) => nearA l b (l.length + 2) i = nearA l b p.1 p.2 /\ ((b = 1 /\ (l.length : Int) - p.2 <= (p.1 : Int)) \/ (b = -1 /\ p.2 + 1 <= (p.1 : Int))) /\ -3 <= p.2 /\ p.2 <= (l.length : Int) + 3) (fun (p : Nat × Int) => p.1) (l.length + 2, i) (fun p hk => ?_) (hJ := by
  exact ⟨rfl, by dsimp only; omega, by dsimp only; omega, by dsimp only; omega⟩)
 obtain ⟨n, j⟩ := p
 obtain ⟨k1, k2, k3, k4⟩ := hk
 dsimp only at *
 apply X.seq
 apply X.sr
 iterate 2 refine Ex.pu ?_
 refine ExF.at 2 ?_
 refine ExF.pu ?_
 iterate 4 refine ExF.gi ?_
 refine ExF.done ?_
 refine Ex.pn ?_
 refine X.cd rfl ?_ ?_<;>intro hc1
 ·apply X.skip
  apply X.seq
  apply X.block
  apply X.sr
  iterate 5 refine Ex.pu ?_
  refine Ex.pn ?_
  refine X.cd rfl ?_ ?_<;>intro hc2
  ·apply X.sr
   iterate 4 refine Ex.pu ?_
   refine Ex.ca (za0 _) ?_
   refine Ex.pu ?_
   refine Ex.pn ?_
   refine X.ret ?_
   refine RetQ.r1 ?_
   all_goals (unfold nearF; rw [k1, ziu hc1 hc2 (by omega)]; rfl)
  apply X.skip
  apply X.region
  iterate 3 refine Ex.pu ?_
  refine Ex.pn ?_
  refine X.bk ((n - 1, j + b)) (hJ := by
   exact ⟨by rw [k1, zj2 hc1 hc2 (by omega)], by dsimp only; omega, by dsimp only; omega, by dsimp only; omega⟩) (hm := by dsimp only; omega)
 ·apply X.exit
  apply X.sr
  refine Ex.pn ?_
  refine X.ret ?_
  refine RetQ.r1 ?_
  all_goals (unfold nearF; rw [k1, zit (by omega)]; rfl)
end Go.Rse
namespace Go.Rse
open Go Go.Proofs
attribute [local irreducible] Pur StepA StepM Ex X Fn Imp LeV LeB FnO It YStep
theorem zj3 {l : List Sg} {i : Int} (h : (((((l.length : Int) <= i + 1 \/ clr (l.getD i.toNat default) = false) \/ ¬ (l.getD i.toNat default).Value = 4) \/ clr (l.getD (i + 1).toNat default) = false) \/ ¬ (l.getD (i + 1).toNat default).Value = 5)) : pairB l i = false := by
 unfold pairB
 rcases h with (((h | h) | h) | h) | h
 ·rw [decide_eq_false (show ¬ i + 1 < (l.length : Int) by omega)]; simp
 ·rw [h]; simp
 ·rw [decide_eq_false h]; simp
 ·rw [h]; simp
 ·rw [decide_eq_false h]; simp
theorem ziv {l : List Sg} {i : Int} (h : (((i + 1 < (l.length : Int) /\ clr (l.getD i.toNat default) = true) /\ (l.getD i.toNat default).Value = 4) /\ clr (l.getD (i + 1).toNat default) = true) /\ (l.getD (i + 1).toNat default).Value = 5) : pairB l i = (!(decide (i + 2 < (l.length : Int)) && decide ((l.getD (i + 2).toNat default).Kind = 3)) && frB (nearF l (-1) (i - 1)) && frB (nearF l 1 (i + 2))) := by
 unfold pairB
 rw [decide_eq_true h.1.1.1.1, h.1.1.1.2, decide_eq_true h.1.1.2, h.1.2, decide_eq_true h.2]; rfl
attribute [local irreducible] pairB nearF frB clr
theorem zd9 (l : List Sg) (hl : l.length <= 4000000000) (i : Int) (h0 : 0 <= i) (h1 : i < (l.length : Int)) : Fn Tryz.prog 170 [sgsA l, iv i] (.bool (pairB l i)) := by
 refine Fn.go Tryz.func170 Tryz.ntmps170 (fun g w d => ?_)
 apply X.sr
 refine Ex.pn ?_
 apply X.seq
 apply X.sr
 iterate 5 refine Ex.pu ?_
 refine ExF.at 5 ?_
 refine ExF.pu ?_
 iterate 4 refine ExF.gi ?_
 refine ExF.cg (za0 _) ?_
 refine ExF.gi ?_
 iterate 2 refine ExF.pu ?_
 iterate 6 refine ExF.gi ?_
 iterate 2 refine ExF.pu ?_
 iterate 5 refine ExF.gi ?_
 refine ExF.cg (za0 _) ?_
 refine ExF.gi ?_
 iterate 2 refine ExF.pu ?_
 iterate 7 refine ExF.gi ?_
 refine ExF.done ?_
 refine Ex.pn ?_
 refine X.cd rfl ?_ ?_<;>intro hc1
 ·apply X.sr
  refine Ex.pn ?_
  refine X.ret ?_
  refine RetQ.r1 ?_
  all_goals (rw [zj3 hc1])
 apply X.skip
 apply X.sr
 iterate 5 refine Ex.pu ?_
 refine ExF.at 5 ?_
 refine ExF.pu ?_
 iterate 7 refine ExF.gi ?_
 refine ExF.done ?_
 iterate 2 refine Ex.pu ?_
 apply Ex.ns
 iterate 2 refine Ex.pu ?_
 refine ExF.at 2 ?_
 refine ExF.pu ?_
 iterate 3 refine ExF.gi ?_
 refine ExF.cg (zd8 l hl (i - 1) (-1) (.inr rfl) (by omega) (by omega) (by omega)) ?_
 iterate 2 refine ExF.pu ?_
 iterate 3 refine ExF.gi ?_
 refine ExF.cg (zd8 l hl (i + 2) 1 (.inl rfl) (by omega) (by omega) (by omega)) ?_
 refine ExF.done ?_
 refine Ex.pu ?_
 refine Ex.pn ?_
 refine X.ret ?_
 refine RetQ.r1 ?_
 all_goals (rw [ziv hc1])
end Go.Rse
namespace Go.Rse
open Go Go.Proofs
theorem zh5 (a : Int) : coll posI [a] = if 0 < a then [a] else [] := by
 unfold coll dl posI srtI
 by_cases h : 0 < a
 ·simp only [h, if_true, List.filter_cons, decide_true, Bool.not_true, Bool.not_false, List.filter_nil, List.mergeSort_singleton]
  simp [Lib.compact, Lib.compactUpTo, Lib.keeps, List.range_succ]
 ·simp only [h, if_false, List.filter_cons, decide_false, Bool.not_true, Bool.not_false, List.filter_nil, List.mergeSort_nil]
  simp [Lib.compact, Lib.compactUpTo]
theorem srt2 {a v : Int} (h : a < v) : srtI [v, a] = [a, v] := by
 unfold srtI
 have h1 : ¬ v <= a := by omega
 simp [List.mergeSort, List.MergeSort.Internal.splitInTwo, List.merge, h1]
theorem zkL {v a : Int} (hv : 0 < v) (ha : a < v) : coll posI [v, a] = if 0 < a then [a, v] else [v] := by
 unfold coll
 by_cases h : 0 < a
 ·have e : dl (fun v => !posI v) [v, a] = [v, a] := by simp [dl, posI, h, hv]
  rw [e, srt2 ha, if_pos h]
  have h2 : ¬ v = a := by omega
  have h3 : ¬ a = v := by omega
  simp [Lib.compact, Lib.compactUpTo, Lib.keeps, List.range_succ, h2, h3]
 ·have e : dl (fun v => !posI v) [v, a] = [v] := by simp [dl, posI, h, hv]
  rw [e, if_neg h]
  simp [srtI, Lib.compact, Lib.compactUpTo, Lib.keeps, List.range_succ]
theorem zn6 (m : Mn) {v : Int} (h : 1 <= v) : 0 <= m.ab v /\ m.ab v < v := by
 unfold Mn.ab
 cases e : (perfL m).find? fun k => decide (k < v) with
 | none => simp; omega
 | some k =>
  have h1 := List.find?_some e
  have h2 := List.mem_of_find?_eq_some e
  have h3 := (List.mem_filter.1 h2).1
  simp at h1 h3 ⊢
  omega
theorem p23 {m : Mn} {v : Int} (hM : ckM m = 0) : m.p v = 2 \/ m.p v = 3 := by
 have hO : m.Ok := by
  unfold ckM at hM; split at hM
  ·assumption
  ·omega
 obtain ⟨a, b, c, d⟩ := hO
 unfold two3 at *
 unfold Mn.p
 split
 ·assumption
 ·split
  ·assumption
  ·split
   ·assumption
   ·split
    ·assumption
    ·exact .inl rfl
theorem zgO {m : Mn} {v : Int} (hM : ckM m = 0) (h1 : 1 <= v) (h2 : v <= 8) : ckMV m v = 0 := by
 have hO : m.Ok := by
  unfold ckM at hM; split at hM
  ·assumption
  ·omega
 unfold ckMV; rw [if_pos hO, if_pos ⟨h1, h2⟩]
theorem zjR {m : Mn} {v : Int} (h1 : 1 <= v) : 0 <= m.aV v /\ m.aV v < v := by
 have := zn6 m h1
 unfold Mn.aV
 split
 ·exact this
 ·omega
def mngR (m : Mn) (s : Sg) : List Int :=
 if s.Kind = 2 then [m.aV s.Value] else if s.Color = true then [0] else if m.p s.Value = 2 /\ m.aV s.Value = 0 then [0] else if m.p s.Value = 2 then [0, m.aV s.Value] else if m.aV s.Value = 0 then [s.Value] else [m.aV s.Value, s.Value]
theorem zlg {m : Mn} {s : Sg} (hM : ckM m = 0) (h1 : 1 <= s.Value) (h2 : s.Value <= 8) (hz : ¬ (s.Kind = 2 /\ m.aV s.Value = 0)) : mngs m s = mngR m s := by
 have ha := zjR (m := m) h1
 have hp := p23 (m := m) (v := s.Value) hM
 have hpV : m.pV s.Value = m.p s.Value := by unfold Mn.pV; rw [if_pos (zgO hM h1 h2)]
 unfold mngs mngR
 rw [hpV, zh5]
 by_cases hK : s.Kind = 2
 ·have : 0 < m.aV s.Value := by
   have : ¬ m.aV s.Value = 0 := fun h => hz ⟨hK, h⟩
   omega
  rw [if_pos hK, if_pos hK, if_pos this]
 ·rw [if_neg hK, if_neg hK]
  by_cases hC : s.Color = true
  ·rw [if_pos hC, if_pos hC]
  ·rw [if_neg hC, if_neg hC]
   rcases hp with hp | hp
   ·by_cases h0 : m.aV s.Value = 0
    ·simp [hp, h0]
    ·have h4 : 0 < m.aV s.Value := by omega
     simp [hp, h0, h4]
   ·rw [zkL (by omega) ha.2]
    by_cases h0 : m.aV s.Value = 0
    ·simp [hp, h0]
    ·have h4 : 0 < m.aV s.Value := by omega
     simp [hp, h0, h4]
theorem ze0 {m : Mn} {s : Sg} (hM : ckM m = 0) (h1 : 1 <= s.Value) (h2 : s.Value <= 8) : (mngs m s).length = 0 ↔ (s.Kind = 2 /\ m.aV s.Value = 0) := by
 constructor
 ·intro h
  refine Classical.byContradiction fun hz => ?_
  rw [zlg hM h1 h2 hz] at h
  unfold mngR at h
  split at h
  ·simp at h
  ·split at h
   ·simp at h
   ·split at h
    ·simp at h
    ·split at h
     ·simp at h
     ·split at h <;> simp at h
 ·rintro ⟨hK, h0⟩
  unfold mngs
  rw [if_pos hK, zh5, if_neg (by omega)]; rfl
def sgR (m : Mn) (l : List Sg) (k : Nat) (s : Sg) : Int :=
 if s.Kind = 1 \/ s.Kind = 2 then (if 1 <= s.Value /\ s.Value <= 8 then 0 else 2)
 else if s.Kind = 3 then (match k with | 0 => 13 | j + 1 => match l[j]? with | some p => if p.Kind = 3 \/ (p.Kind = 2 /\ m.aV p.Value = 0) then 13 else 0 | none => 13)
 else 8
def ckFromR (m : Mn) (l : List Sg) : Nat -> List Sg -> Int
 | _, [] => 0
 | k, s :: r => if sgR m l k s = 0 then ckFromR m l (k + 1) r else sgR m l k s
def ckR (m : Mn) (l : List Sg) : Int := if ckM m = 0 then ckFromR m l 0 l else ckM m
theorem zio {m : Mn} {l : List Sg} {k : Nat} {s : Sg} (h : l[k]? = some s) (h0 : sgR m l k s = 0) : ckFromR m l k (l.drop k) = ckFromR m l (k + 1) (l.drop (k + 1)) := by
 have hk : k < l.length := (List.getElem?_eq_some_iff.1 h).1
 rw [List.drop_eq_getElem_cons hk]
 have : l[k] = s := (List.getElem?_eq_some_iff.1 h).2
 rw [this]; simp only [ckFromR, h0, if_true]
theorem zhs {m : Mn} {l : List Sg} {k : Nat} {s : Sg} (h : l[k]? = some s) (h0 : sgR m l k s ≠ 0) : ckFromR m l k (l.drop k) = sgR m l k s := by
 have hk : k < l.length := (List.getElem?_eq_some_iff.1 h).1
 rw [List.drop_eq_getElem_cons hk]
 have : l[k] = s := (List.getElem?_eq_some_iff.1 h).2
 rw [this]; simp only [ckFromR, if_neg h0]
theorem zjS {m : Mn} {l : List Sg} {k : Nat} {s : Sg} (h0 : sgF m l k s = 0) (hK : s.Kind ≠ 3) : (s.Kind = 1 \/ s.Kind = 2) /\ 1 <= s.Value /\ s.Value <= 8 := by
 unfold sgF at h0
 by_cases h : s.Kind = 1 \/ s.Kind = 2
 ·rw [if_pos h] at h0
  refine ⟨h, ?_⟩
  by_cases hv : 1 <= s.Value /\ s.Value <= 8
  ·exact hv
  ·rw [if_neg hv] at h0; simp at h0
 ·rw [if_neg h, if_neg hK] at h0; simp at h0
theorem zpB {m : Mn} {l : List Sg} {k : Nat} {s : Sg} (hM : ckM m = 0) (hs : l[k]? = some s) (hb : ∀ i s, i < k -> l[i]? = some s -> sgF m l i s = 0) : sgF m l k s = sgR m l k s := by
 unfold sgF sgR
 by_cases h : s.Kind = 1 \/ s.Kind = 2
 ·rw [if_pos h, if_pos h]
 ·rw [if_neg h, if_neg h]
  by_cases h3 : s.Kind = 3
  ·rw [if_pos h3, if_pos h3]
   cases k with
   | zero => rfl
   | succ j =>
    cases hp : l[j]? with
    | none => simp only [hp]
    | some p =>
     simp only [hp]
     by_cases hk3 : p.Kind = 3
     ·rw [if_pos (.inl hk3), if_pos (.inl hk3)]
     ·obtain ⟨_, h1, h2⟩ := zjS (hb j p (by omega) hp) hk3
      by_cases hz : (mngs m p).length = 0
      ·rw [if_pos (.inr hz), if_pos (.inr ((ze0 hM h1 h2).1 hz))]
      ·rw [if_neg (fun h => h.elim hk3 hz), if_neg (fun h => h.elim hk3 (fun h => hz ((ze0 hM h1 h2).2 h)))]
  ·rw [if_neg h3, if_neg h3]
theorem zh6 {m : Mn} {l : List Sg} (hM : ckM m = 0) : ∀ (n k : Nat), l.length - k = n -> k <= l.length -> (∀ i s, i < k -> l[i]? = some s -> sgF m l i s = 0) -> ckFrom m l k (l.drop k) = ckFromR m l k (l.drop k)
 | 0, k, hn, hk, hb => by
  rw [List.drop_of_length_le (by omega)]; rfl
 | n + 1, k, hn, hk, hb => by
  have hs : l[k]? = some l[k] := L.gg (by omega)
  have he := zpB hM hs hb
  by_cases h0 : sgF m l k l[k] = 0
  ·rw [zcq hs h0, zio hs (by rw [← he]; exact h0)]
   refine zh6 hM n (k + 1) (by omega) (by omega) fun i s hi hsi => ?_
   rcases Nat.lt_succ_iff_lt_or_eq.1 hi with h | h
   ·exact hb i s h hsi
   ·subst h; rw [hs] at hsi; injection hsi with hsi; subst hsi; exact h0
  ·rw [zbw hs h0, zhs hs (by rw [← he]; exact h0), he]
theorem zpC (m : Mn) (l : List Sg) : ckD m l = ckR m l := by
 unfold ckD ckR
 by_cases hM : ckM m = 0
 ·rw [if_pos hM, if_pos hM]
  have := zh6 (l := l) hM l.length 0 rfl (Nat.zero_le _) (fun i s h => absurd h (Nat.not_lt_zero i))
  simpa using this
 ·rw [if_neg hM, if_neg hM]
theorem zcR {m : Mn} {l : List Sg} (h : ckD m l = 0) : ckM m = 0 /\ ckFrom m l 0 l = 0 := by
 unfold ckD at h
 by_cases hM : ckM m = 0
 ·rw [if_pos hM] at h; exact ⟨hM, h⟩
 ·rw [if_neg hM] at h; exact absurd h hM
theorem prevOk {m : Mn} {l : List Sg} (h : ckD m l = 0) {j : Nat} {s p : Sg} (hs : l[j + 1]? = some s) (h3 : s.Kind = 3) (hp : l[j]? = some p) :
 p.Kind ≠ 3 /\ (p.Kind = 1 \/ p.Kind = 2) /\ 1 <= p.Value /\ p.Value <= 8 /\ ¬ (p.Kind = 2 /\ m.aV p.Value = 0) /\ mngs m p = mngR m p := by
 obtain ⟨hM, hF⟩ := zcR h
 have hall := (zbd hF l.length (Nat.le_refl _)).2
 have h0 := hall (j + 1) s (List.getElem?_eq_some_iff.1 hs).1 hs
 unfold sgF at h0
 rw [if_neg (by omega), if_pos h3] at h0
 simp only [hp] at h0
 have hk : ¬ (p.Kind = 3 \/ (mngs m p).length = 0) := fun h => by rw [if_pos h] at h0; simp at h0
 have hk3 : p.Kind ≠ 3 := fun h => hk (.inl h)
 obtain ⟨h5, h1, h2⟩ := zjS (hall j p (List.getElem?_eq_some_iff.1 hp).1 hp) hk3
 have hz : ¬ (p.Kind = 2 /\ m.aV p.Value = 0) := fun h => hk (.inr ((ze0 hM h1 h2).2 h))
 exact ⟨hk3, h5, h1, h2, hz, zlg hM h1 h2 hz⟩
theorem zfz {l : List Sg} : ∀ (k : Nat) (x : Int), x ∈ dotsK l k -> ∃ (j : Nat) (s : Sg), x = (j : Int) /\ l[j]? = some s /\ s.Kind = 3
 | 0, x, hx => by simp [dotsK] at hx
 | k + 1, x, hx => by
  simp only [dotsK, List.mem_append] at hx
  rcases hx with hx | hx
  ·exact zfz k x hx
  ·cases hs : l[k]? with
   | none => simp [hs] at hx
   | some s =>
    simp only [hs] at hx
    split at hx
    ·rename_i hK; simp at hx; exact ⟨k, s, hx, hs, hK⟩
    ·simp at hx
theorem dotPrev {m : Mn} {l : List Sg} (h : ckD m l = 0) {x : Int} (hx : x ∈ dotsK l l.length) : ∃ (j : Nat) (s p : Sg), x = ((j + 1 : Nat) : Int) /\ l[j + 1]? = some s /\ s.Kind = 3 /\ l[j]? = some p /\ prevS l x = some p := by
 obtain ⟨j, s, p, h1, h2, h3⟩ := zdv (zcR h).2 l.length (Nat.le_refl _) x hx
 obtain ⟨j', s', h4, h5, h6⟩ := zfz l.length x hx
 have : j' = j + 1 := by omega
 subst this
 rw [h2] at h5; injection h5 with h5; subst h5
 refine ⟨j, s, p, h1, h2, h6, h3, ?_⟩
 unfold prevS
 rw [show (x - 1).toNat = j by omega]; exact h3
def ownV : List Int -> Int -> Int
 | [], _ => 0
 | x :: r, v => if x = 0 \/ x = v then x else ownV r v
def choiceR (m : Mn) (l : List Sg) (i : Int) (p : Sg) : Int :=
 if (mngR m p).length = 1 then (mngR m p).headD 0 else if nextV l i > p.Value then ownV (mngR m p) p.Value else m.aV p.Value
def ruleAtR (m : Mn) (l : List Sg) (i : Int) : Int := match prevS l i with | some p => choiceR m l i p | none => 0
def ruleR (m : Mn) (l : List Sg) : List Int := (dotsK l l.length).map (ruleAtR m l)
theorem zh7 {m : Mn} {l : List Sg} {i : Int} {p : Sg} (hM : ckM m = 0) (h1 : 1 <= p.Value) (h2 : p.Value <= 8) (he : mngs m p = mngR m p) : choice m l i p = choiceR m l i p := by
 have ha := zjR (m := m) h1
 have hp := p23 (m := m) (v := p.Value) hM
 have hpV : m.pV p.Value = m.p p.Value := by unfold Mn.pV; rw [if_pos (zgO hM h1 h2)]
 unfold choice choiceR
 rw [he, hpV]
 unfold mngR
 split
 ·simp
 ·split
  ·simp
  ·split
   ·simp
   ·split
    ·rename_i h3 h4 h5 h6
     have : ¬ m.aV p.Value = 0 := fun h => h5 ⟨h6, h⟩
     by_cases hn : nextV l i <= p.Value
     ·simp [hn]; omega
     ·simp [hn, ownV, h6]
    ·split
     ·simp
     ·rename_i h3 h4 h5 h6 h7
      by_cases hn : nextV l i <= p.Value
      ·simp [hn]; omega
      ·have h8 : m.p p.Value = 3 := by omega
       have h9 : ¬ m.aV p.Value = p.Value := by omega
       simp [hn, ownV, h8, h7, h9]
theorem zmm {m : Mn} {l : List Sg} (h : ckD m l = 0) : ruleD m l = ruleR m l := by
 refine List.map_congr_left fun x hx => ?_
 obtain ⟨j, s, p, h1, h2, h3, h4, h5⟩ := dotPrev h hx
 obtain ⟨_, _, q1, q2, _, q3⟩ := prevOk h h2 h3 h4
 unfold ruleAt ruleAtR
 rw [h5]
 exact zh7 (zcR h).1 q1 q2 q3
end Go.Rse
namespace Go.Rse
open Go Go.Proofs
attribute [local irreducible] Pur StepA StepM Ex X Fn Imp LeV LeB FnO It YStep
end Go.Rse
