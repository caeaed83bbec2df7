/-
  Walks: what dots mean.
  Walks: the dots of a run.
  Walks: the first fault of a run.
  Walks: the meanings of all dots.
  Walks: how many lists of meanings.
-/
import Derived.Test.YtfiiobachmglpaaGreatDoorDJShelf1
import Derived.Test.YtfiiobachmglpaaGreatDoorDLogB
import Derived.Test.YtfiiobachmglpaaGreatDoorDMens2
set_option linter.unusedSimpArgs false
set_option linter.unusedVariables false
namespace Go.Rse
open Go Go.Proofs
attribute [local irreducible] Pur StepA StepM Ex X Fn Imp LeV LeB FnO It YStep
def coll (p : Int -> Bool) (l : List Int) : List Int := Lib.compact (srtI (dl (fun v => !p v) l))
theorem zen (p : Int -> Bool) (l : List Int) : (coll p l).length <= l.length := Nat.le_trans (Lib.compact_length_le _) (by rw [zet]; exact List.length_filter_le _ _)
theorem zex (p : Int -> Bool) (l : List Int) : (dl p l).length <= l.length := List.length_filter_le _ _
theorem zdf (fp : FuncId) (p : Int -> Bool) (v : Int) (hp : Fn Tryz.prog fp [iv v] (.bool (p v))) : Fn Tryz.prog 260 [iv v, .ept (fun _ : Unit => [.fn fp []]) () 0] (.bool (!p v)) := by
 refine Fn.go Tryz.func260 Tryz.ntmps260 (fun g w d => ?_)
 apply X.sr
 refine Ex.pu ?_
 apply Ex.ns
 iterate 2 refine Ex.pu ?_
 refine Ex.ca hp ?_
 refine Ex.pu ?_
 refine Ex.pn ?_
 refine X.ret ?_
 refine RetQ.r1 ?_
 all_goals (first | rfl | (simp_all; done))
theorem zbc (l : List Int) (hl : l.length <= 4000000000) (fp : FuncId) (p : Int -> Bool) (hp : ∀ v, v ∈ l -> Fn Tryz.prog fp [iv v] (.bool (p v))) : Fn Tryz.prog 216 [intsA l, .fn fp []] (intsA (coll p l)) := by
 refine Fn.go Tryz.func216 Tryz.ntmps216 (fun g w d => ?_)
 apply X.sr
 refine Ex.bx ?_
 refine Ex.pu ?_
 apply Ex.ns
 refine Ex.pu ?_
 refine Ex.callO' [(5, 6)] (zbb l hl) rfl rfl rfl (LeL.refl _) rfl rfl trivial rfl rfl rfl rfl ?_
 refine Ex.imp (Imp.freezeBox (k := 3) rfl rfl) ?_
 refine Ex.pur (zdY rfl) rfl ?_
 refine Ex.callO' [(2000000, 6), (2000002, 8)] (FnO.renOwn 2000002 (zbG l hl 260 [.ept (fun _ : Unit => [.fn fp []]) () 0] (fun v => !p v) rfl (fun v hv => zdf fp p v (hp v hv))) rfl) rfl rfl rfl (LeL.refl _) rfl rfl ⟨⟨_, _, rfl, rfl, LeB.refl _, rfl⟩, trivial⟩ rfl rfl rfl rfl ?_
 refine Ex.pu ?_
 apply Ex.ns
 refine Ex.pu ?_
 refine Ex.callO' [(2000000, 8)] (zcK (dl (fun v => !p v) l) (Nat.le_trans (zex _ _) hl)) rfl rfl rfl (LeL.refl _) rfl rfl ⟨⟨_, _, rfl, rfl, LeB.refl _, rfl⟩, trivial⟩ rfl rfl rfl rfl ?_
 apply Ex.ns
 refine Ex.pu ?_
 refine Ex.callO' [(2000000, 8), (2000002, 12)] (FnO.renOwn 2000002 (zb0 (srtI (dl (fun v => !p v) l)) (by rw [zet]; exact Nat.le_trans (zex _ _) hl)) rfl) rfl rfl rfl (LeL.refl _) rfl rfl ⟨⟨_, _, rfl, rfl, LeB.refl _, rfl⟩, trivial⟩ rfl rfl rfl rfl ?_
 refine Ex.pn ?_
 refine X.ret ?_
 refine RetQ.imp (Imp.freeze (k := 12) rfl) ?_
 refine RetQ.r1 ?_
 all_goals (first | rfl | (simp_all; done))
def Mn.aV (m : Mn) (v : Int) : Int := if ckMV m v = 0 then m.ab v else 0
def Mn.pV (m : Mn) (v : Int) : Int := if ckMV m v = 0 then m.p v else 0
def posI (v : Int) : Bool := decide (0 < v)
def mngs (m : Mn) (s : Sg) : List Int :=
 if s.Kind = 2 then coll posI [m.aV s.Value] else if s.Color then [0] else if m.pV s.Value = 3 then coll posI [s.Value, m.aV s.Value] else 0 :: coll posI [m.aV s.Value]
theorem zbq (v : Int) : Fn Tryz.prog 215 [iv v] (.bool (posI v)) := by
 refine Fn.go Tryz.func215 Tryz.ntmps215 (fun g w d => ?_)
 apply X.sr
 refine Ex.pu ?_
 apply Ex.ns
 iterate 2 refine Ex.pu ?_
 refine Ex.pn ?_
 refine X.ret ?_
 refine RetQ.r1 ?_
 all_goals (first | rfl | (simp_all; done))
theorem zc7 (m : Mn) (s : Sg) : Fn Tryz.prog 140 [mnA m, sgA s] (intsA (mngs m s)) := by
 refine Fn.go Tryz.func140 Tryz.ntmps140 (fun g w d => ?_)
 apply X.sr
 iterate 2 refine Ex.ba ?_
 refine Ex.pu ?_
 apply Ex.ns
 iterate 3 refine Ex.pu ?_
 refine Ex.ca (zei m s.Value) ?_
 iterate 5 refine Ex.pu ?_
 apply Ex.ns
 iterate 3 refine Ex.pu ?_
 refine Ex.ca (zcI m s.Value) ?_
 iterate 5 refine Ex.pu ?_
 apply Ex.ns
 refine Ex.pn ?_
 apply X.seq
 apply X.block
 apply X.sr
 iterate 3 refine Ex.pu ?_
 refine Ex.pn ?_
 refine X.cd rfl ?_ ?_<;>intro hc1
 ·apply X.sr
  refine Ex.pu ?_
  refine Ex.bs intE [_] ?_
  refine Ex.pu ?_
  refine Ex.imp (Imp.freeze (k := 29) rfl) ?_
  refine Ex.call rfl rfl rfl (zbc [m.aV s.Value] (by simp) _ posI (fun v _ => zbq v)) rfl ?_
  refine Ex.pn ?_
  refine X.ret ?_
  refine RetQ.r1 ?_
  all_goals (simp [mngs, hc1])
 apply X.sr
 iterate 2 refine Ex.pu ?_
 refine Ex.pn ?_
 refine X.cd rfl ?_ ?_<;>intro hc2
 ·apply X.sr
  refine Ex.bs intE [_] ?_
  refine Ex.pn ?_
  refine X.ret ?_
  refine RetQ.imp (Imp.freeze (k := 35) rfl) ?_
  refine RetQ.r1 ?_
  all_goals (simp [mngs, *]; rfl)
 apply X.sr
 iterate 2 refine Ex.pu ?_
 refine Ex.pn ?_
 refine X.cd rfl ?_ ?_<;>intro hc3
 ·have hc4 : m.pV s.Value = 3 := hc3
  apply X.sr
  iterate 3 refine Ex.pu ?_
  refine Ex.bs intE [_, _] ?_
  refine Ex.pu ?_
  refine Ex.imp (Imp.freeze (k := 42) rfl) ?_
  refine Ex.call rfl rfl rfl (zbc [s.Value, m.aV s.Value] (by simp) _ posI (fun v _ => zbq v)) rfl ?_
  refine Ex.pn ?_
  refine X.ret ?_
  refine RetQ.r1 ?_
  all_goals (simp [mngs, hc1, hc2, hc4])
 have hc4 : ¬ m.pV s.Value = 3 := hc3
 have hcl : (coll posI [m.aV s.Value]).length <= 1 := zen _ _
 apply X.skip
 apply X.sr
 refine Ex.bs intE [_] ?_
 refine Ex.pu ?_
 refine Ex.bs intE [_] ?_
 refine Ex.pu ?_
 refine Ex.imp (Imp.freeze (k := 47) rfl) ?_
 refine Ex.call rfl rfl rfl (zbc [m.aV s.Value] (by simp) _ posI (fun v _ => zbq v)) rfl ?_
 refine Ex.mo ?_
 refine Ex.pn ?_
 refine X.ret ?_
 refine RetQ.imp (Imp.freeze (k := 45) rfl) ?_
 refine RetQ.r1 ?_
 all_goals (simp [mngs, *]; rfl)
end Go.Rse
namespace Go.Rse
open Go Go.Proofs
attribute [local irreducible] Pur StepA StepM Ex X Fn Imp LeV LeB FnO It YStep
def dotsK (l : List Sg) : Nat -> List Int
 | 0 => []
 | k + 1 => dotsK l k ++ (match l[k]? with | some s => if s.Kind = 3 then [(k : Int)] else [] | none => [])
theorem zcp (l : List Sg) : ∀ k, (dotsK l k).length <= k
 | 0 => Nat.le_refl _
 | k + 1 => by
  have := zcp l k
  simp only [dotsK, List.length_append]
  split
  ·split <;> simp <;> omega
  ·simp; omega
theorem zfj (l : List Sg) (hl : l.length <= 1000) : Fn Tryz.prog 150 [sgsA l] (intsA (dotsK l l.length)) := by
 refine Fn.go Tryz.func150 Tryz.ntmps150 (fun g w d => ?_)
 apply X.sr
 refine Ex.pu ?_
 apply Ex.ns
 refine Ex.pn ?_
 iterate 2 apply X.seq
 refine X.imp (Imp.mkrow intE 3 1 3 3 rfl rfl) ?_
 apply X.region
 iterate 2 refine Ex.pu ?_
 refine Ex.pn ?_
 apply X.block
 refine X.lp (ι := Nat) (fun (k : Nat) => [(3, .own 3), (6, sgsA l), (7, iv l.length), (8, iv (k : Int))]) (fun (k : Nat) => [(3, .row intE (dotsK l k) 3 1)]) (fun (k : Nat) => k <= l.length) (fun (k : Nat) => l.length - k) 0 (fun k hk => ?_)
 apply X.sr
 refine Ex.pn ?_
 apply X.seq
 refine X.cd rfl ?_ ?_<;>intro hc1
 ·obtain ⟨s, hs⟩ : ∃ s, l[k]? = some s := ⟨_, L.gg (by omega)⟩
  have hs2 : l[(k : Int).toNat]? = some s := by simpa using hs
  have hdl := zcp l k
  apply X.skip
  apply X.seq
  apply X.block
  apply X.sr
  iterate 3 refine Ex.pu ?_
  refine Ex.al ?_
  refine Ex.pu ?_
  refine Ex.mo ?_
  apply Ex.ns
  iterate 2 refine Ex.pu ?_
  refine Ex.pn ?_
  refine X.cd rfl ?_ ?_<;>intro hc2
  ·have hrow2 : dotsK l k ++ [(k : Int)] = dotsK l (k + 1) := by simp [dotsK, hs, hc2]
   apply X.region
   iterate 2 refine Ex.pu ?_
   refine Ex.bs intE [_] ?_
   refine Ex.mo ?_
   refine Ex.pn ?_
   apply X.region
   refine Ex.pu ?_
   refine Ex.pn ?_
   refine X.bk (k + 1)
  ·have hrow2 : dotsK l k = dotsK l (k + 1) := by simp [dotsK, hs, hc2]
   apply X.skip
   apply X.region
   refine Ex.pu ?_
   refine Ex.pn ?_
   refine X.bk (k + 1)
 ·have hk2 : k = l.length := by omega
  subst hk2
  apply X.exit
  apply X.sr
  refine Ex.pu ?_
  refine Ex.pn ?_
  refine X.ret ?_
  refine RetQ.imp (Imp.freeze (k := 3) rfl) ?_
  refine RetQ.r1 ?_
  all_goals (first | rfl | (simp_all; done))
end Go.Rse
namespace Go.Rse
open Go Go.Proofs
attribute [local irreducible] Pur StepA StepM Ex X Fn Imp LeV LeB FnO It YStep
def sgF (m : Mn) (l : List Sg) (k : Nat) (s : Sg) : Int :=
 if s.Kind = 1 \/ s.Kind = 2 then (if 1 <= s.Value /\ s.Value <= 8 then 0 else 2)
 else if s.Kind = 3 then (match k with | 0 => 13 | j + 1 => match l[j]? with | some p => if p.Kind = 3 \/ (mngs m p).length = 0 then 13 else 0 | none => 13)
 else 8
def ckFrom (m : Mn) (l : List Sg) : Nat -> List Sg -> Int
 | _, [] => 0
 | k, s :: r => if sgF m l k s = 0 then ckFrom m l (k + 1) r else sgF m l k s
def ckD (m : Mn) (l : List Sg) : Int := if ckM m = 0 then ckFrom m l 0 l else ckM m
theorem zcq {m : Mn} {l : List Sg} {k : Nat} {s : Sg} (h : l[k]? = some s) (h0 : sgF m l k s = 0) : ckFrom m l k (l.drop k) = ckFrom m l (k + 1) (l.drop (k + 1)) := by
 have hk : k < l.length := (List.getElem?_eq_some_iff.1 h).1
 rw [List.drop_eq_getElem_cons hk]
 have : l[k] = s := (List.getElem?_eq_some_iff.1 h).2
 rw [this]; simp only [ckFrom, h0, if_true]
theorem zbw {m : Mn} {l : List Sg} {k : Nat} {s : Sg} (h : l[k]? = some s) (h0 : sgF m l k s ≠ 0) : ckFrom m l k (l.drop k) = sgF m l k s := by
 have hk : k < l.length := (List.getElem?_eq_some_iff.1 h).1
 rw [List.drop_eq_getElem_cons hk]
 have : l[k] = s := (List.getElem?_eq_some_iff.1 h).2
 rw [this]; simp only [ckFrom, if_neg h0]
theorem ziz {m : Mn} {l : List Sg} {k : Nat} {s : Sg} (hk : k < l.length) (h3 : s.Kind = 3) : sgF m l k s = if ((k : Int) = 0 \/ (l.getD ((k : Int) - 1).toNat default).Kind = 3) \/ ((mngs m (l.getD ((k : Int) - 1).toNat default)).length : Int) = 0 then 13 else 0 := by
 unfold sgF
 rw [if_neg (by omega), if_pos h3]
 cases k with
 | zero => simp
 | succ j =>
  have e : (((j + 1 : Nat) : Int) - 1).toNat = j := by omega
  have hp : l[j]? = some (l.getD j default) := by rw [List.getD_eq_getElem?_getD, L.gg (by omega)]; rfl
  rw [e]; simp only [hp]
  generalize l.getD j default = p
  by_cases h1 : p.Kind = 3
  ·simp [h1]
  ·by_cases h2 : (mngs m p).length = 0
   ·rw [if_pos (.inr h2), if_pos (.inr (by omega))]
   ·rw [if_neg (by omega), if_neg (by omega)]
theorem zb1 (m : Mn) (l : List Sg) (hl : l.length <= 1000) : Fn Tryz.prog 78 [mnA m, sgsA l] (iv (ckD m l)) := by
 refine Fn.go Tryz.func78 Tryz.ntmps78 (fun g w d => ?_)
 apply X.sr
 refine Ex.ba ?_
 refine Ex.pn ?_
 apply X.seq
 apply X.sr
 refine Ex.pu ?_
 refine Ex.ca (zcH m) ?_
 refine Ex.pu ?_
 apply Ex.ns
 refine Ex.pu ?_
 refine Ex.pn ?_
 refine X.cd rfl ?_ ?_<;>intro hc1
 ·apply X.sr
  refine Ex.pu ?_
  refine Ex.pn ?_
  refine X.ret ?_
  refine RetQ.r1 ?_
  all_goals (first | rfl | (unfold ckD; rw [if_neg hc1]))
 apply X.skip
 apply X.seq
 apply X.sr
 iterate 2 refine Ex.pu ?_
 refine Ex.pn ?_
 apply X.block
 refine X.lp (ι := Nat) (fun (k : Nat) => [(1, sgsA l), (2, .ptr 2 0 0 0), (13, sgsA l), (14, iv l.length), (15, iv (k : Int))]) (fun (k : Nat) => [(2, .box (mnE m) 23)]) (fun (k : Nat) => k <= l.length /\ ckD m l = ckFrom m l k (l.drop k)) (fun (k : Nat) => l.length - k) 0 (fun k hk => ?_) (hJ := by
  exact ⟨by omega, by unfold ckD; rw [if_pos hc1]; rfl⟩)
 obtain ⟨hk1, hk2⟩ := hk
 apply X.sr
 refine Ex.pn ?_
 apply X.seq
 refine X.cd rfl ?_ ?_<;>intro hc2
 ·obtain ⟨s, hs⟩ : ∃ s, l[k]? = some s := ⟨_, L.gg (by omega)⟩
  have hs2 : l[(k : Int).toNat]? = some s := by simpa using hs
  apply X.skip
  apply X.seq
  apply X.block
  apply X.sr
  iterate 3 refine Ex.pu ?_
  refine Ex.al ?_
  refine Ex.pu ?_
  refine Ex.mo ?_
  apply Ex.ns
  refine Ex.pu ?_
  refine Ex.pn ?_
  apply X.block
  apply X.seq
  apply X.sr
  refine Ex.pu ?_
  refine Ex.pn ?_
  refine X.cd rfl ?_ ?_<;>intro hc3
  ·apply X.skip
   refine X.cd rfl ?_ ?_<;>intro hc4
   ·apply X.sr
    iterate 3 refine Ex.pu ?_
    refine ExF.at 3 ?_
    refine ExF.pu ?_
    iterate 3 refine ExF.gi ?_
    refine ExF.done ?_
    refine Ex.pn ?_
    refine X.cd rfl ?_ ?_<;>intro hc5
    ·have hF : sgF m l k s = 2 := by unfold sgF; rw [if_pos (.inl hc3), if_neg (by omega)]
     apply X.sr
     refine Ex.pn ?_
     refine X.ret ?_
     refine RetQ.r1 ?_
     all_goals (rw [hk2, zbw hs (by rw [hF]; decide), hF])
    have h0 : sgF m l k s = 0 := by unfold sgF; rw [if_pos (.inl hc3), if_pos (by omega)]
    apply X.skip
    apply X.region
    refine Ex.pu ?_
    refine Ex.pn ?_
    refine X.bk (k + 1) (hJ := by
     exact ⟨by omega, by rw [hk2, zcq hs h0]⟩)
   ·exact absurd hc3 hc4
  ·apply X.region
   refine Ex.pu ?_
   refine Ex.pn ?_
   refine X.cd rfl ?_ ?_<;>intro hc6
   ·apply X.sr
    iterate 3 refine Ex.pu ?_
    refine ExF.at 3 ?_
    refine ExF.pu ?_
    iterate 3 refine ExF.gi ?_
    refine ExF.done ?_
    refine Ex.pn ?_
    refine X.cd rfl ?_ ?_<;>intro hc7
    ·have hF : sgF m l k s = 2 := by unfold sgF; rw [if_pos (.inr hc6), if_neg (by omega)]
     apply X.sr
     refine Ex.pn ?_
     refine X.ret ?_
     refine RetQ.r1 ?_
     all_goals (rw [hk2, zbw hs (by rw [hF]; decide), hF])
    have h0 : sgF m l k s = 0 := by unfold sgF; rw [if_pos (.inr hc6), if_pos (by omega)]
    apply X.skip
    apply X.region
    refine Ex.pu ?_
    refine Ex.pn ?_
    refine X.bk (k + 1) (hJ := by
     exact ⟨by omega, by rw [hk2, zcq hs h0]⟩)
   ·apply X.sr
    refine Ex.pu ?_
    refine Ex.pn ?_
    refine X.cd rfl ?_ ?_<;>intro hc8
    ·apply X.seq
     refine X.dw [35,36,37,38,39,40,41,42,43,44,45,46,47,48,49,50,51,52,53,54,55,56] [0,1,3,7,7,23,63,127,255,511,1023,2047,4095,4095,4095,20479,61439,126975,262143,524287,1048575,2097151] mo ?_
     iterate 3 refine ChM.pu ?_
     iterate 7 refine ChM.gi ?_
     iterate 2 refine ChM.pu ?_
     iterate 6 refine ChM.gi ?_
     refine ChM.cg (zc7 m _) ?_
     iterate 2 refine ChM.gi ?_
     refine ChM.pu ?_
     refine ChM.tl ?_
     apply Ex.nil
     refine X.cd rfl ?_ ?_<;>intro hc9
     ·have hF : sgF m l k s = 13 := by rw [ziz (by omega) hc8, if_pos hc9]
      apply X.sr
      refine Ex.pn ?_
      refine X.ret ?_
      refine RetQ.r1 ?_
      all_goals (rw [hk2, zbw hs (by rw [hF]; decide), hF])
     have h0 : sgF m l k s = 0 := by rw [ziz (by omega) hc8, if_neg (fun h => by omega)]
     apply X.skip
     apply X.region
     refine Ex.pu ?_
     refine Ex.pn ?_
     refine X.bk (k + 1) (hJ := by
      exact ⟨by omega, by rw [hk2, zcq hs h0]⟩)
    ·have hF : sgF m l k s = 8 := by unfold sgF; rw [if_neg (by omega), if_neg (by omega)]
     apply X.sr
     refine Ex.pn ?_
     refine X.ret ?_
     refine RetQ.r1 ?_
     all_goals (rw [hk2, zbw hs (by rw [hF]; decide), hF])
 ·apply X.exit
  apply X.sr
  refine Ex.pn ?_
  refine X.ret ?_
  refine RetQ.r1 ?_
  all_goals (rw [hk2, List.drop_of_length_le (by omega)]; rfl)
end Go.Rse
namespace Go.Rse
open Go Go.Proofs
attribute [local irreducible] Pur StepA StepM Ex X Fn Imp LeV LeB FnO It YStep
theorem zbd {m : Mn} {l : List Sg} (h : ckFrom m l 0 l = 0) : ∀ k, k <= l.length -> ckFrom m l k (l.drop k) = 0 /\ ∀ i s, i < k -> l[i]? = some s -> sgF m l i s = 0
 | 0, _ => ⟨h, fun i s hi => absurd hi (Nat.not_lt_zero i)⟩
 | k + 1, hk => by
  obtain ⟨h1, h2⟩ := zbd h k (by omega)
  have hs : l[k]? = some l[k] := L.gg (by omega)
  have h0 : sgF m l k l[k] = 0 := by
   by_cases h0 : sgF m l k l[k] = 0
   ·exact h0
   ·rw [zbw hs h0] at h1; exact h1
  refine ⟨by rw [← zcq hs h0]; exact h1, fun i s hi he => ?_⟩
  rcases Nat.lt_succ_iff_lt_or_eq.1 hi with h3 | h3
  ·exact h2 i s h3 he
  ·subst h3; rw [hs] at he; injection he with he; subst he; exact h0
theorem zdv {m : Mn} {l : List Sg} (h : ckFrom m l 0 l = 0) : ∀ k, k <= l.length -> ∀ x, x ∈ dotsK l k -> ∃ (j : Nat) (s p : Sg), x = ((j + 1 : Nat) : Int) /\ l[j + 1]? = some s /\ l[j]? = some p
 | 0, _, x, hx => by simp [dotsK] at hx
 | k + 1, hk, x, hx => by
  simp only [dotsK, List.mem_append] at hx
  rcases hx with hx | hx
  ·exact zdv h k (by omega) x hx
  ·have hs : l[k]? = some l[k] := L.gg (by omega)
   simp only [hs] at hx
   split at hx
   ·rename_i hK
    have h0 := (zbd h (k + 1) hk).2 k _ (by omega) hs
    simp at hx
    cases k with
    | zero => unfold sgF at h0; rw [if_neg (by omega), if_pos hK] at h0; simp at h0
    | succ j => exact ⟨j, _, _, hx, hs, L.gg (by omega)⟩
   ·simp at hx
def prevS (l : List Sg) (i : Int) : Option Sg := l[(i - 1).toNat]?
def mnAt (m : Mn) (l : List Sg) (i : Int) : List Int := match prevS l i with | some p => mngs m p | none => []
def mnsD (m : Mn) (l : List Sg) : List (List Int) := (dotsK l l.length).map (mnAt m l)
theorem ziA {m : Mn} {l : List Sg} {L : List Int} {k : Nat} {x : Int} {p : Sg} (h : L[k]? = some x) (hp : l[(x - 1).toNat]? = some p) : (L.take k).map (mnAt m l) ++ [mngs m p] = (L.take (k + 1)).map (mnAt m l) := by
 have e : mnAt m l x = mngs m p := by unfold mnAt prevS; rw [hp]
 rw [List.take_add_one, h]
 simp [e]
theorem zc8 (m : Mn) (l : List Sg) (hl : l.length <= 1000) : Fn Tryz.prog 148 [mnA m, sgsA l] (.tup [listsA (if ckD m l = 0 then mnsD m l else []), iv (ckD m l)]) := by
 refine Fn.go Tryz.func148 Tryz.ntmps148 (fun g w d => ?_)
 apply X.sr
 refine Ex.ba ?_
 refine Ex.pu ?_
 refine Ex.pn ?_
 apply X.seq
 apply X.sr
 iterate 2 refine Ex.pu ?_
 refine Ex.ca (zb1 m l hl) ?_
 refine Ex.pu ?_
 apply Ex.ns
 refine Ex.pu ?_
 refine Ex.pn ?_
 refine X.cd rfl ?_ ?_<;>intro hc1
 ·apply X.sr
  iterate 2 refine Ex.pu ?_
  refine Ex.pn ?_
  refine X.ret ?_
  refine RetQ.imp (Imp.au (ts := [(4, listsA []), (5, iv (ckD m l))]) (hs := [])) ?_
  refine RetQ.r2 ?_ ?_
  all_goals (first | (simp [hc1]; done) | (rw [if_pos hc1, ← hfin]; rfl) | (rw [if_neg hc1]) | (rw [hc1]; rfl) | rfl)
 apply X.skip
 apply X.sr
 refine Ex.pn ?_
 iterate 2 apply X.seq
 refine X.imp (Imp.mkrow intsE 27 1 7 7 rfl rfl) ?_
 have hcf : ckFrom m l 0 l = 0 := by unfold ckD at hc1; split at hc1
                                     ·exact hc1
                                     ·exact absurd hc1 (by assumption)
 apply X.region
 refine Ex.pu ?_
 refine Ex.ca (zfj l hl) ?_
 refine Ex.pu ?_
 refine Ex.pn ?_
 apply X.block
 have hdl := zcp l l.length
 refine X.lp (ι := Nat) (fun (k : Nat) => [(1, sgsA l), (2, .ptr 2 0 0 0), (7, .own 7), (17, intsA (dotsK l l.length)), (18, iv (dotsK l l.length).length), (19, iv (k : Int)), (5, iv 0)]) (fun (k : Nat) => [(2, .box (mnE m) 23), (7, .row intsE (((dotsK l l.length).take k).map (mnAt m l)) 27 1)]) (fun (k : Nat) => k <= (dotsK l l.length).length) (fun (k : Nat) => (dotsK l l.length).length - k) 0 (fun k hk => ?_)
 apply X.sr
 refine Ex.pn ?_
 apply X.seq
 refine X.cd rfl ?_ ?_<;>intro hc2
 ·obtain ⟨x, hx⟩ : ∃ x, (dotsK l l.length)[k]? = some x := ⟨_, L.gg (by omega)⟩
  have hx2 : (dotsK l l.length)[(k : Int).toNat]? = some x := by simpa using hx
  obtain ⟨j, s, p, hj1, hj2, hj3⟩ := zdv hcf l.length (Nat.le_refl _) x (List.mem_of_getElem? hx)
  have hjl : j + 1 < l.length := (List.getElem?_eq_some_iff.1 hj2).1
  have hp : l[(x - 1).toNat]? = some p := by rw [show (x - 1).toNat = j by omega]; exact hj3
  have hrow2 := ziA (m := m) hx hp
  have htl : (((dotsK l l.length).take k).map (mnAt m l)).length <= 1000 := by simp; omega
  apply X.skip
  apply X.seq
  apply X.block
  apply X.sr
  iterate 2 refine Ex.pu ?_
  refine Ex.pn ?_
  refine X.dw [23,24,25,26,27,28,29,30,31] [0,0,0,0,8,28,60,126,254,511,1023] mo ?_
  iterate 7 refine ChM.pu ?_
  refine ChM.ca (zc7 m _) ?_
  refine ChM.step rfl rfl rfl (zad (k := 31) (enc := intsE) (l := [_]) sl199 ty27 ze27 (by decide) rfl rfl rfl rfl (by decide) (by decide) (fun _ => rfl) rfl) rfl ?_
  refine ChM.tl ?_
  refine Ex.mo ?_
  refine Ex.pn ?_
  apply X.region
  refine Ex.pu ?_
  refine Ex.pn ?_
  refine X.bk (k + 1)
 ·have hkl : k = (dotsK l l.length).length := by omega
  subst hkl
  have hfin : ((dotsK l l.length).take (dotsK l l.length).length).map (mnAt m l) = mnsD m l := by rw [List.take_length]; rfl
  apply X.exit
  apply X.sr
  iterate 2 refine Ex.pu ?_
  refine Ex.pn ?_
  refine X.ret ?_
  refine RetQ.imp (Imp.freeze (k := 7) rfl) ?_
  refine RetQ.r2 ?_ ?_
  all_goals (first | (simp [hc1]; done) | (rw [if_pos hc1, ← hfin]; rfl) | (rw [if_neg hc1]) | (rw [hc1]; rfl) | rfl)
end Go.Rse
namespace Go.Rse
open Go Go.Proofs
attribute [local irreducible] Pur StepA StepM Ex X Fn Imp LeV LeB FnO It YStep
theorem zj4 (m : Mn) (s : Sg) : (mngs m s).length <= 2 := by
 unfold mngs
 split
 ·exact Nat.le_trans (zen _ _) (by simp)
 ·split
  ·simp
  ·split
   ·exact zen _ _
   ·have := zen posI [m.aV s.Value]; simp at this ⊢; omega
theorem ziB {m : Mn} {l : List Sg} {x : List Int} (h : x ∈ mnsD m l) : x.length <= 2 := by
 obtain ⟨i, _, rfl⟩ := List.mem_map.1 h
 unfold mnAt
 split
 ·exact zj4 _ _
 ·simp
theorem zhC (m : Mn) (l : List Sg) : (mnsD m l).length <= l.length := by simpa [mnsD] using zcp l l.length
end Go.Rse
