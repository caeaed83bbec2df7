/-
  A run read by the rule.
  Walks: a run read by the rule.
  Walks: the durations of a run by the rule.
-/
import Derived.Test.YtfiiobachmglpaaGreatDoorSRulA
import Derived.Test.YtfiiobachmglpaaGreatDoorSItfA
import Derived.Test.YtfiiobachmglpaaGreatDoorSLaw13a
import Derived.Test.YtfiiobachmglpaaGreatDoorSRulB
set_option linter.unusedSimpArgs false
set_option linter.unusedVariables false
namespace Go.Rse
open Go Go.Proofs
theorem LeV.agg {cs cs' : List AV} (h : LeL cs cs') : LeV (.agg cs) (.agg cs') := fun I ρ v hv => by
 cases hv with
 | agg _ vs hl hvv =>
  obtain ⟨h1, h2⟩ := h.rvl (vs := vs) ⟨hl, hvv⟩
  exact .agg cs' vs h1 h2
def rdI (m : Mn) (l : List Sg) : List Ite := itmV m l (ruleD m l) (twos (prL m l).length)
def rdE (m : Mn) (l : List Sg) : Int := if ckD m l = 0 then leE m (rdI m l) else ckD m l
def rdV (m : Mn) (l : List Sg) : Rdg := if rdE m l = 0 then ⟨ruleD m l, twos (prL m l).length, leC m (rdI m l), (leI m (rdI m l)).map (·.Dur)⟩ else ⟨[], [], [], []⟩
section
variable {m : Mn} {l : List Sg}
theorem rd_it (h : ckD m l = 0) : itmE m l (ruleD m l) (twos (prL m l).length) = 0 := by
 unfold itmE
 rw [if_pos (rule_mk (ckD_zero h).1 h)]; exact rule_du h
theorem rd_a (h : ¬ ckD m l = 0) : rdE m l = ckD m l /\ rdV m l = ⟨[], [], [], []⟩ := by
 have : rdE m l = ckD m l := by unfold rdE; rw [if_neg h]
 refine ⟨this, ?_⟩; unfold rdV; rw [this, if_neg h]
theorem rd_b (h : ckD m l = 0) (h2 : ¬ leE m (rdI m l) = 0) : rdE m l = leE m (rdI m l) /\ rdV m l = ⟨[], [], [], []⟩ := by
 have : rdE m l = leE m (rdI m l) := by unfold rdE; rw [if_pos h]
 refine ⟨this, ?_⟩; unfold rdV; rw [this, if_neg h2]
theorem rd_c (h : ckD m l = 0) (h2 : leE m (rdI m l) = 0) : rdE m l = 0 /\ rdV m l = ⟨ruleD m l, twos (prL m l).length, leC m (rdI m l), (leI m (rdI m l)).map (·.Dur)⟩ := by
 have : rdE m l = 0 := by unfold rdE; rw [if_pos h, h2]
 refine ⟨this, ?_⟩; unfold rdV; rw [this, if_pos rfl]
theorem rdI_len : (rdI m l).length <= l.length := itmV_len _ _ _ _
end
theorem lvF_len {m : Mn} : ∀ (L : List Int) (l : List Ite) (C : List Int), (lvF m L l C).2.1.length <= l.length
 | [], l, C => Nat.le_refl _
 | k :: r, l, C => by
  unfold lvF
  split
  ·rename_i h
   have := lvF_len (m := m) r (apV m k l (cuV m k l)) (C ++ cuV m k l)
   rw [apV_len (cu_ap h)] at this; exact this
  ·simp
theorem leI_len (m : Mn) (l : List Ite) : (leI m l).length <= l.length := by
 unfold leI
 split
 ·exact lvF_len _ _ _
 ·simp
theorem map_tk {l : List Ite} {n : Nat} {x : Ite} (h : l[n]? = some x) : (l.take n).map (·.Dur) ++ [x.Dur] = (l.take (n + 1)).map (·.Dur) := by
 rw [List.take_add_one, h]; simp
end Go.Rse
namespace Go.Rse
open Go Go.Proofs
attribute [local irreducible] Pur StepA StepM Ex X ExG Fn Imp LeV LeB FnO It YStep FnW FnOW FnP FnD
attribute [local irreducible] leE leC leI rdI rdE rdV ckD ruleD twos prL itmV itmE
set_option maxHeartbeats 4000000 in
theorem C_rule_Read (m : Mn) (l : List Sg) (hl : l.length <= 1000) : Fn Tryz.prog 26 [mnA m, sgsA l] (.tup [rdgA (rdV m l), iv (rdE m l)]) := by
 have hR := C_item_Rule m l hl
 have hil := rdI_len (m := m) (l := l)
 have hLl := leI_len m (rdI m l)
 have hpl : (twos (prL m l).length).length <= 1000 := by rw [twos_len]; have := prL_len m l; omega
 have hdl : (ruleD m l).length <= 4000000 := by have := rule_len m l; have := mnsD_len m l; omega
 refine Fn.go Tryz.func26 Tryz.ntmps26 (fun g w d => ?_)
 apply X.sr
 refine Ex.ba ?_
 refine Ex.al ?_
 refine Ex.pu ?_
 apply Ex.nil
 apply X.seq
 apply X.sr
 iterate 2 refine Ex.pu ?_
 refine Ex.ca (C_dot_Check m l hl) ?_
 refine Ex.pu ?_
 apply Ex.ns
 iterate 2 refine Ex.pu ?_
 apply Ex.nil
 refine X.cd rfl (fun hc1 => ?_) (fun hc1 => ?_)
 ·have hZ1 := rd_a hc1
  obtain ⟨hE, hV⟩ := hZ1
  apply X.sr
  iterate 2 refine Ex.pu ?_
  refine Ex.mo ?_
  refine Ex.pu ?_
  apply Ex.nil
  refine X.ret ?_
  refine RetQ.imp (Imp.of (ts := [(4, .ptr 4 0 0 0), (5, iv (ckD m l))]) (hs := [(4, .box [intsA [], intsA [], intsA [], tmsA []] 41)]) ⟨⟨_, rfl, LeV.refl _⟩, ⟨_, rfl, LeV.refl _⟩, True.intro⟩ ⟨⟨_, rfl, LeB.box (.cons (LeV.nils _) (.cons (LeV.nils _) (.cons (LeV.nils _) (.cons (LeV.nils _) .nil))))⟩, True.intro⟩) ?_
  refine RetQ.ret (.many (by decide) (.cons (.cellA rfl rfl rfl rfl ty41 (LeV.eq ?_)) (.cons (.tmp rfl (LeV.eq ?_)) .nil)))
  all_goals (first | exact congrArg (fun z => AV.agg (rdgE z)) hV.symm | exact congrArg (fun z => AV.int .i64 z) hE.symm)
 have h0 : ckD m l = 0 := by omega
 rw [if_pos h0, h0] at hR
 have hit := rd_it h0
 have hI : Fn Tryz.prog 33 [mnA m, sgsA l, intsA (ruleD m l), intsA (twos (prL m l).length)] (.tup [itsA (rdI m l), iv 0]) := by
  have h := C_item_Items m l (ruleD m l) (twos (prL m l).length) hl hpl
  rw [hit] at h; unfold rdI; exact h
 apply X.skip
 apply X.sr
 iterate 2 refine Ex.pu ?_
 refine Ex.ca hR ?_
 iterate 7 refine Ex.pu ?_
 apply Ex.nil
 apply X.seq
 apply X.sr
 iterate 2 refine Ex.pu ?_
 apply Ex.nil
 refine X.cd rfl (fun hc2 => ?_) (fun hc2 => ?_)
 ·exact absurd rfl hc2
 apply X.skip
 apply X.sr
 iterate 4 refine Ex.pu ?_
 refine Ex.ca hI ?_
 iterate 5 refine Ex.pu ?_
 apply Ex.nil
 apply X.seq
 apply X.sr
 iterate 2 refine Ex.pu ?_
 apply Ex.nil
 refine X.cd rfl (fun hc3 => ?_) (fun hc3 => ?_)
 ·exact absurd rfl hc3
 apply X.skip
 apply X.sr
 iterate 2 refine Ex.pu ?_
 refine Ex.ca (C_rule_Levels m (rdI m l) (by omega)) ?_
 iterate 7 refine Ex.pu ?_
 apply Ex.nil
 apply X.seq
 apply X.sr
 iterate 2 refine Ex.pu ?_
 apply Ex.nil
 refine X.cd rfl (fun hc4 => ?_) (fun hc4 => ?_)
 ·have hZ2 := rd_b h0 hc4
  obtain ⟨hE, hV⟩ := hZ2
  apply X.sr
  iterate 2 refine Ex.pu ?_
  refine Ex.mo ?_
  refine Ex.pu ?_
  apply Ex.nil
  refine X.ret ?_
  refine RetQ.imp (Imp.of (ts := [(4, .ptr 4 0 0 0), (5, iv (leE m (rdI m l)))]) (hs := [(4, .box [intsA [], intsA [], intsA [], tmsA []] 41)]) ⟨⟨_, rfl, LeV.refl _⟩, ⟨_, rfl, LeV.refl _⟩, True.intro⟩ ⟨⟨_, rfl, LeB.box (.cons (LeV.nils _) (.cons (LeV.nils _) (.cons (LeV.nils _) (.cons (LeV.nils _) .nil))))⟩, True.intro⟩) ?_
  refine RetQ.ret (.many (by decide) (.cons (.cellA rfl rfl rfl rfl ty41 (LeV.eq ?_)) (.cons (.tmp rfl (LeV.eq ?_)) .nil)))
  all_goals (first | exact congrArg (fun z => AV.agg (rdgE z)) hV.symm | exact congrArg (fun z => AV.int .i64 z) hE.symm)
 have h2 : leE m (rdI m l) = 0 := by omega
 have hZ3 := rd_c h0 h2
 obtain ⟨hE, hV0⟩ := hZ3
 have hz0 : [] = ((leI m (rdI m l)).take 0).map (fun x => x.Dur) := by simp
 apply X.skip
 apply X.sr
 iterate 4 refine Ex.pu ?_
 refine Ex.al ?_
 refine Ex.mo ?_
 apply Ex.nil
 apply X.seq
 apply X.seq
 refine X.imp (st' := ⟨[(4, .ptr 4 0 0 0), (10, itsA (leI m (rdI m l))), (12, .ptr 12 0 0 0)], [(4, .box [.nils, .nils, .nils, .nils] 41), (12, .box [intsA (ruleD m l), intsA (twos (prL m l).length), intsA (leC m (rdI m l)), .own 40] 41), (40, .row tmE [] 60 2)]⟩) ((Imp.mkrowC tmE 60 2 12 40 3 41 _ [intsA (ruleD m l), intsA (twos (prL m l).length), intsA (leC m (rdI m l)), .own 40] rfl rfl rfl rfl).trans Imp.au) ?_
 apply X.region
 iterate 3 refine Ex.pu ?_
 apply Ex.nil
 apply X.block
 refine X.lp (ι := Nat) (fun (n : Nat) => [(4, .ptr 4 0 0 0), (12, .ptr 12 0 0 0), (60, itsA (leI m (rdI m l))), (61, iv (leI m (rdI m l)).length), (62, iv (n : Int))]) (fun (n : Nat) => [(4, .box [.nils, .nils, .nils, .nils] 41), (12, .box [intsA (ruleD m l), intsA (twos (prL m l).length), intsA (leC m (rdI m l)), .own 40] 41), (40, .row tmE (((leI m (rdI m l)).take n).map (fun x => x.Dur)) 60 2)]) (fun (n : Nat) => n <= (leI m (rdI m l)).length) (fun (n : Nat) => (leI m (rdI m l)).length - n) 0 (fun n hk => ?_) (h0 := by
  exact Imp.ax)
 apply X.sr
 refine Ex.pu ?_
 apply Ex.nil
 apply X.seq
 refine X.cd rfl (fun hc5 => ?_) (fun hc5 => ?_)
 ·obtain ⟨x, hx⟩ : ∃ x, (leI m (rdI m l))[n]? = some x := ⟨_, List.getElem?_eq_getElem (by omega)⟩
  have hx2 : (leI m (rdI m l))[(n : Int).toNat]? = some x := by simpa using hx
  have hst := map_tk hx
  have htl : (((leI m (rdI m l)).take n).map (fun x => x.Dur)).length <= 1000 := by rw [List.length_map, List.length_take]; omega
  apply X.skip
  apply X.seq
  apply X.block
  apply X.sr
  iterate 2 refine Ex.pu ?_
  refine Ex.al ?_
  refine Ex.mo ?_
  apply Ex.nil
  apply X.region
  iterate 4 refine Ex.pu ?_
  refine Ex.bs tmE [⟨_, _⟩] ?_
  refine Ex.mo ?_
  refine Ex.pu ?_
  refine Ex.mo ?_
  apply Ex.nil
  apply X.region
  iterate 2 refine Ex.pu ?_
  apply Ex.nil
  refine X.bk (n + 1) (hI := Imp.ax)
 ·have hn : n = (leI m (rdI m l)).length := by omega
  subst hn
  have hV : rdV m l = ⟨ruleD m l, twos (prL m l).length, leC m (rdI m l), ((leI m (rdI m l)).take (leI m (rdI m l)).length).map (fun x => x.Dur)⟩ := by rw [hV0, List.take_length]
  apply X.exit
  apply X.seq
  refine X.imp (st' := ⟨[(4, .ptr 4 0 0 0), (12, .ptr 12 0 0 0)], [(4, .box [.nils, .nils, .nils, .nils] 41), (12, .box [intsA (ruleD m l), intsA (twos (prL m l).length), intsA (leC m (rdI m l)), tmsA (((leI m (rdI m l)).take (leI m (rdI m l)).length).map (fun x => x.Dur))] 41)]⟩) ((Imp.freeze (k := 40) rfl).trans Imp.au) ?_
  apply X.region
  refine Ex.pu ?_
  refine Ex.mo ?_
  refine Ex.pu ?_
  apply Ex.nil
  refine X.ret ?_
  refine RetQ.ret (.many (by decide) (.cons (.cellA rfl rfl rfl rfl ty41 (LeV.eq ?_)) (.cons (.tmp rfl (LeV.eq ?_)) .nil)))
  all_goals (first | exact congrArg (fun z => AV.agg (rdgE z)) hV.symm | exact congrArg (fun z => AV.int .i64 z) hE.symm)
end Go.Rse
namespace Go.Rse
open Go Go.Proofs
attribute [local irreducible] Pur StepA StepM Ex X ExG Fn Imp LeV LeB FnO It YStep FnW FnOW FnP FnD
attribute [local irreducible] rdE rdV
theorem C_rule_Durs (m : Mn) (l : List Sg) (hl : l.length <= 1000) : Fn Tryz.prog 30 [mnA m, sgsA l] (.tup [tmsA (rdV m l).Durs, iv (rdE m l)]) := by
 refine Fn.go Tryz.func30 Tryz.ntmps30 (fun g w d => ?_)
 apply X.sr
 refine Ex.ba ?_
 iterate 2 refine Ex.pu ?_
 apply Ex.ns
 iterate 2 refine Ex.pu ?_
 refine Ex.ca (C_rule_Read m l hl) ?_
 iterate 3 refine Ex.pu ?_
 refine Ex.al ?_
 refine Ex.mo ?_
 refine Ex.pu ?_
 apply Ex.ns
 iterate 5 refine Ex.pu ?_
 apply Ex.nil
 refine X.ret ?_
 refine RetQ.ret (.many (by decide) (.cons (.tmp rfl (LeV.eq ?_)) (.cons (.tmp rfl (LeV.eq ?_)) .nil)))
 all_goals (first | (with_reducible rfl) | rfl)
theorem rdV_len {m : Mn} {l : List Sg} : (rdV m l).Durs.length <= l.length := by
 unfold rdV
 split
 ·show ((leI m (rdI m l)).map _).length <= _
  rw [List.length_map]
  exact Nat.le_trans (leI_len _ _) rdI_len
 ·simp
theorem C_rule_Reads (m : Mn) (l : List Sg) (D : List Tm) (hl : l.length <= 1000) : Fn Tryz.prog 42 [mnA m, sgsA l, tmsA D] (.bool (decide (rdE m l = 0) && decide ((rdV m l).Durs = D))) := by
 have hr := rdV_len (m := m) (l := l)
 refine Fn.go Tryz.func42 Tryz.ntmps42 (fun g w d => ?_)
 apply X.sr
 refine Ex.ba ?_
 refine Ex.pu ?_
 apply Ex.ns
 iterate 2 refine Ex.pu ?_
 refine Ex.ca (C_rule_Durs m l hl) ?_
 iterate 5 refine Ex.pu ?_
 apply Ex.ns
 iterate 2 refine Ex.pu ?_
 refine ExF.at 2 ?_
 refine ExF.pu ?_
 iterate 2 refine ExF.gi ?_
 refine ExF.cg (C_slices_Equal_api_Time_api_Time (rdV m l).Durs D (by omega)) ?_
 refine ExF.done ?_
 iterate 2 refine Ex.pu ?_
 apply Ex.nil
 refine X.ret ?_
 refine RetQ.ret (.one (.tmp rfl (LeV.eq ?_)))
 all_goals (first | rfl | (simp_all; done))
end Go.Rse
