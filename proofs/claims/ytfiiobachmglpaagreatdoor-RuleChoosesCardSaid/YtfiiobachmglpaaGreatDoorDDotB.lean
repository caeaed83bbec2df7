/-
  Walks: the meaning of each dot by the rule.
  Walks: the list of meanings with a number.
  Walks: the cuts and additions of chosen meanings.
  Walks: cuts and additions.
-/
import Derived.Test.YtfiiobachmglpaaGreatDoorDDotA
import Derived.Test.YtfiiobachmglpaaGreatDoorDLogB
import Derived.Test.YtfiiobachmglpaaGreatDoorDLogC
set_option linter.unusedSimpArgs false
set_option linter.unusedVariables false
namespace Go.Rse
open Go Go.Proofs
attribute [local irreducible] Pur StepA StepM Ex X Fn Imp LeV LeB FnO It YStep
def nextV (l : List Sg) (i : Int) : Int := match l[(i + 1).toNat]? with | some s => s.Value | none => 9
def choice (m : Mn) (l : List Sg) (i : Int) (p : Sg) : Int :=
 if (mngs m p).length = 2 then (if nextV l i <= p.Value then m.aV p.Value else if m.pV p.Value = 3 then p.Value else 0) else (mngs m p).headD 0
def ruleAt (m : Mn) (l : List Sg) (i : Int) : Int := match prevS l i with | some p => choice m l i p | none => 0
def ruleD (m : Mn) (l : List Sg) : List Int := (dotsK l l.length).map (ruleAt m l)
theorem ziC {m : Mn} {l : List Sg} {L : List Int} {k : Nat} {x : Int} {p : Sg} (h : L[k]? = some x) (hp : l[(x - 1).toNat]? = some p) : (L.take k).map (ruleAt m l) ++ [choice m l x p] = (L.take (k + 1)).map (ruleAt m l) := by
 have e : ruleAt m l x = choice m l x p := by unfold ruleAt prevS; rw [hp]
 rw [List.take_add_one, h]
 simp [e]
theorem zhD {m : Mn} {l : List Sg} (h : ckFrom m l 0 l = 0) : ∀ k, k <= l.length -> ∀ x, x ∈ dotsK l k -> ∀ p, l[(x - 1).toNat]? = some p -> (mngs m p).length ≠ 0
 | 0, _, x, hx => by simp [dotsK] at hx
 | k + 1, hk, x, hx => by
  simp only [dotsK, List.mem_append] at hx
  rcases hx with hx | hx
  ·exact zhD h k (by omega) x hx
  ·have hs : l[k]? = some l[k] := L.gg (by omega)
   simp only [hs] at hx
   split at hx
   ·rename_i hK
    have h0 := (zbd h (k + 1) hk).2 k _ (by omega) hs
    simp at hx
    intro p hp
    cases k with
    | zero => unfold sgF at h0; rw [if_neg (by omega), if_pos hK] at h0; simp at h0
    | succ j =>
     rw [show (x - 1).toNat = j by omega] at hp
     unfold sgF at h0
     rw [if_neg (by omega), if_pos hK] at h0
     simp only [hp] at h0
     intro hz
     rw [if_pos (.inr hz)] at h0
     simp at h0
   ·simp at hx
theorem zj5 {m : Mn} {l : List Sg} {k : Nat} {x : Int} {p : Sg} (h : (dotsK l l.length)[k]? = some x) (hp : l[(x - 1).toNat]? = some p) : (mnsD m l)[k]? = some (mngs m p) := by
 have e : mnAt m l x = mngs m p := by unfold mnAt prevS; rw [hp]
 rw [mnsD, List.getElem?_map, h]
 simp [e]
theorem zgh (l : List Sg) (hl : l.length <= 1000) (i : Int) (h0 : 0 <= i) (h1 : i <= 1000) : Fn Tryz.prog 149 [iv i, .ept (fun _ : Unit => [sgsA l]) () 0] (iv (nextV l i)) := by
 refine Fn.go Tryz.func149 Tryz.ntmps149 (fun g w d => ?_)
 apply X.sr
 refine Ex.pn ?_
 apply X.seq
 apply X.sr
 iterate 4 refine Ex.pu ?_
 refine Ex.pn ?_
 refine X.cd rfl ?_ ?_<;>intro hc1
 ·obtain ⟨s, hs⟩ : ∃ s, l[(i + 1).toNat]? = some s := ⟨_, L.gg (by omega)⟩
  apply X.sr
  iterate 6 refine Ex.pu ?_
  refine Ex.pn ?_
  refine X.ret ?_
  refine RetQ.r1 ?_
  all_goals (congr 1; unfold nextV; rw [hs])
 have hs : l[(i + 1).toNat]? = none := List.getElem?_eq_none (by omega)
 apply X.skip
 apply X.sr
 refine Ex.pn ?_
 refine X.ret ?_
 refine RetQ.r1 ?_
 all_goals (congr 1; unfold nextV; rw [hs])
theorem zia (m : Mn) (l : List Sg) (hl : l.length <= 1000) : Fn Tryz.prog 83 [mnA m, sgsA l] (.tup [intsA (if ckD m l = 0 then ruleD m l else []), iv (ckD m l)]) := by
 refine Fn.go Tryz.func83 Tryz.ntmps83 (fun g w d => ?_)
 apply X.sr
 refine Ex.ba ?_
 refine Ex.bx ?_
 iterate 2 refine Ex.pu ?_
 apply Ex.ns
 iterate 2 refine Ex.pu ?_
 refine Ex.ca (zc8 m l hl) ?_
 iterate 4 refine Ex.pu ?_
 refine Ex.pn ?_
 apply X.seq
 apply X.sr
 refine Ex.pu ?_
 refine Ex.pn ?_
 refine X.cd rfl ?_ ?_<;>intro hc1
 ·apply X.sr
  iterate 2 refine Ex.pu ?_
  refine Ex.pn ?_
  refine X.ret ?_
  refine RetQ.imp (Imp.au (ts := [(4, intsA []), (5, iv (ckD m l))]) (hs := [])) ?_
  refine RetQ.r2 ?_ ?_
  all_goals (first | (simp [hc1]; done) | (rw [if_pos hc1, ← hfin]; rfl) | (rw [if_neg hc1]) | (rw [hc1]; rfl) | rfl)
 apply X.skip
 apply X.seq
 refine X.imp (Imp.freezeBox (k := 3) rfl rfl) ?_
 have hms : (if ckD m l = 0 then mnsD m l else []) = mnsD m l := if_pos hc1
 rw [hms]
 have hcf : ckFrom m l 0 l = 0 := by unfold ckD at hc1; split at hc1
                                     ·exact hc1
                                     ·exact absurd hc1 (by assumption)
 apply X.region
 iterate 2 refine Ex.pu ?_
 apply Ex.ns
 refine Ex.pn ?_
 iterate 2 apply X.seq
 refine X.imp (Imp.mkrow intE 3 1 9 9 rfl rfl) ?_
 apply X.region
 refine Ex.pu ?_
 refine Ex.ca (zfj l hl) ?_
 refine Ex.pu ?_
 refine Ex.pn ?_
 apply X.block
 have hdl := zcp l l.length
 refine X.lp (ι := Nat) (fun (k : Nat) => [(2, .ptr 2 0 0 0), (3, .ept (fun _ : Unit => [sgsA l]) () 0), (5, iv 0), (6, listsA (mnsD m l)), (8, .fn 149 [.ept (fun _ : Unit => [sgsA l]) () 0]), (9, .own 9), (29, intsA (dotsK l l.length)), (30, iv (dotsK l l.length).length), (31, iv (k : Int))]) (fun (k : Nat) => [(2, .box (mnE m) 23), (9, .row intE (((dotsK l l.length).take k).map (ruleAt m l)) 3 1)]) (fun (k : Nat) => k <= (dotsK l l.length).length) (fun (k : Nat) => (dotsK l l.length).length - k) 0 (fun k hk => ?_)
 apply X.sr
 refine Ex.pn ?_
 apply X.seq
 refine X.cd rfl ?_ ?_<;>intro hc2
 ·obtain ⟨x, hx⟩ : ∃ x, (dotsK l l.length)[k]? = some x := ⟨_, L.gg (by omega)⟩
  have hx2 : (dotsK l l.length)[(k : Int).toNat]? = some x := by simpa using hx
  obtain ⟨j, s, p, hj1, hj2, hj3⟩ := zdv hcf l.length (Nat.le_refl _) x (List.mem_of_getElem? hx)
  have hjl : j + 1 < l.length := (List.getElem?_eq_some_iff.1 hj2).1
  have hp : l[(x - 1).toNat]? = some p := by rw [show (x - 1).toNat = j by omega]; exact hj3
  have hne := zhD hcf l.length (Nat.le_refl _) x (List.mem_of_getElem? hx) p hp
  have hmk : (mnsD m l)[(k : Int).toNat]? = some (mngs m p) := by simpa using zj5 (m := m) hx hp
  obtain ⟨c0, hc0⟩ : ∃ c0, (mngs m p)[(0 : Int).toNat]? = some c0 := ⟨_, L.gg (by simp; omega)⟩
  have hhd : (mngs m p).headD 0 = c0 := by
   cases hq : mngs m p with
   | nil => simp [hq] at hne
   | cons a b => simp [hq] at hc0; simp [hc0]
  have hrow2 := ziC (m := m) hx hp
  have htl : (((dotsK l l.length).take k).map (ruleAt m l)).length <= 1000 := by simp; omega
  apply X.skip
  apply X.seq
  apply X.block
  apply X.sr
  iterate 5 refine Ex.pu ?_
  apply Ex.ns
  iterate 7 refine Ex.pu ?_
  apply Ex.ns
  iterate 6 refine Ex.pu ?_
  refine Ex.pn ?_
  apply X.seq
  apply X.sr
  iterate 5 refine Ex.pu ?_
  refine Ex.pn ?_
  refine X.cd rfl ?_ ?_<;>intro hc3
  ·apply X.sr
   iterate 2 refine Ex.pu ?_
   refine Ex.ca (zcI m p.Value) ?_
   iterate 5 refine Ex.pu ?_
   apply Ex.ns
   iterate 2 refine Ex.pu ?_
   refine Ex.ca (zei m p.Value) ?_
   iterate 4 refine Ex.pu ?_
   refine Ex.pn ?_
   apply X.block
   apply X.sr
   iterate 2 refine Ex.pu ?_
   refine Ex.ca (zgh l hl x (by omega) (by omega)) ?_
   iterate 2 refine Ex.pu ?_
   refine Ex.pn ?_
   refine X.cd rfl ?_ ?_<;>intro hc4
   ·have hch : choice m l x p = m.aV p.Value := by unfold choice; rw [if_pos (by omega), if_pos hc4]
    rw [hch] at hrow2
    apply X.region
    refine Ex.pu ?_
    refine Ex.pn ?_
    apply X.region
    iterate 2 refine Ex.pu ?_
    refine Ex.bs intE [_] ?_
    refine Ex.mo ?_
    refine Ex.pn ?_
    apply X.region
    refine Ex.pu ?_
    refine Ex.pn ?_
    refine X.bk (k + 1)
   ·apply X.sr
    iterate 2 refine Ex.pu ?_
    refine Ex.pn ?_
    refine X.cd rfl ?_ ?_<;>intro hc5
    ·have hc6 : m.pV p.Value = 3 := hc5
     have hch : choice m l x p = p.Value := by unfold choice; rw [if_pos (by omega), if_neg (by omega), if_pos hc6]
     rw [hch] at hrow2
     apply X.region
     refine Ex.pu ?_
     refine Ex.pn ?_
     apply X.region
     iterate 2 refine Ex.pu ?_
     refine Ex.bs intE [_] ?_
     refine Ex.mo ?_
     refine Ex.pn ?_
     apply X.region
     refine Ex.pu ?_
     refine Ex.pn ?_
     refine X.bk (k + 1)
    ·have hc6 : ¬ m.pV p.Value = 3 := hc5
     have hch : choice m l x p = 0 := by unfold choice; rw [if_pos (by omega), if_neg (by omega), if_neg hc6]
     rw [hch] at hrow2
     apply X.region
     refine Ex.pn ?_
     apply X.region
     iterate 2 refine Ex.pu ?_
     refine Ex.bs intE [_] ?_
     refine Ex.mo ?_
     refine Ex.pn ?_
     apply X.region
     refine Ex.pu ?_
     refine Ex.pn ?_
     refine X.bk (k + 1)
  ·have hch : choice m l x p = c0 := by unfold choice; rw [if_neg (by omega), hhd]
   rw [hch] at hrow2
   apply X.skip
   apply X.region
   iterate 2 refine Ex.pu ?_
   refine Ex.bs intE [_] ?_
   refine Ex.mo ?_
   refine Ex.pn ?_
   apply X.region
   refine Ex.pu ?_
   refine Ex.pn ?_
   refine X.bk (k + 1)
 ·have hkl : k = (dotsK l l.length).length := by omega
  subst hkl
  have hfin : ((dotsK l l.length).take (dotsK l l.length).length).map (ruleAt m l) = ruleD m l := by rw [List.take_length]; rfl
  apply X.exit
  apply X.sr
  iterate 2 refine Ex.pu ?_
  refine Ex.pn ?_
  refine X.ret ?_
  refine RetQ.imp (Imp.freeze (k := 9) rfl) ?_
  refine RetQ.r2 ?_ ?_
  all_goals (first | (simp [hc1]; done) | (rw [if_pos hc1, ← hfin]; rfl) | (rw [if_neg hc1]) | (rw [hc1]; rfl) | rfl)
end Go.Rse
namespace Go.Rse
open Go Go.Proofs
attribute [local irreducible] Pur StepA StepM Ex X Fn Imp LeV LeB FnO It YStep
attribute [local irreducible] mnsD ckD
end Go.Rse
namespace Go.Rse
open Go Go.Proofs
attribute [local irreducible] Pur StepA StepM Ex X Fn Imp LeV LeB FnO It YStep
theorem zj6 (x : Int) (l : List Int) : decide (0 <= fidx (fun u => decide (x = u)) l) = decide (x ∈ l) := by
 by_cases h : x ∈ l
 ·have : l.findIdx (fun u => decide (x = u)) < l.length := List.findIdx_lt_length_of_exists ⟨x, h, by simp⟩
  simp only [fidx, if_pos this, h]; simp
 ·have h2 : l.findIdx (fun u => decide (x = u)) = l.length := List.findIdx_eq_length.2 fun u hu => decide_eq_false fun e => h (e ▸ hu)
  have : ¬ l.findIdx (fun u => decide (x = u)) < l.length := by omega
  simp only [fidx, if_neg this, h]; simp
theorem zci (l : List Int) (x : Int) (hl : l.length <= 4000000000) : Fn Tryz.prog 205 [intsA l, iv x] (iv (fidx (fun u => decide (x = u)) l)) := by
 refine Fn.go Tryz.func205 Tryz.ntmps205 (fun g w d => ?_)
 apply X.sr
 refine Ex.pn ?_
 apply X.seq
 apply X.sr
 iterate 2 refine Ex.pu ?_
 refine Ex.pn ?_
 apply X.block
 refine X.lp (ι := Nat) (fun (k : Nat) => [(0, intsA l), (1, iv x), (7, iv l.length), (8, iv (k : Int))]) (fun (k : Nat) => []) (fun (k : Nat) => k <= l.length /\ ∀ i u, i < k -> l[i]? = some u -> decide (x = u) = false) (fun (k : Nat) => l.length - k) 0 (fun k hk => ?_) (hJ := by
  exact ⟨by omega, fun i u h => absurd h (Nat.not_lt_zero i)⟩)
 obtain ⟨hk1, hk2⟩ := hk
 apply X.sr
 refine Ex.pn ?_
 apply X.seq
 refine X.cd rfl ?_ ?_<;>intro hc1
 ·obtain ⟨v, hv⟩ : ∃ v, l[k]? = some v := ⟨_, L.gg (by omega)⟩
  have hv2 : l[(k : Int).toNat]? = some v := by simpa using hv
  apply X.skip
  apply X.seq
  apply X.block
  apply X.sr
  iterate 2 refine Ex.pu ?_
  apply Ex.ns
  iterate 5 refine Ex.pu ?_
  refine Ex.pn ?_
  refine X.cd rfl ?_ ?_<;>intro hc2
  ·apply X.sr
   refine Ex.pu ?_
   refine Ex.pn ?_
   refine X.ret ?_
   refine RetQ.r1 ?_
   all_goals (congr 1; exact (zh9 hv (by simpa using hc2) hk2).symm)
  apply X.skip
  apply X.region
  refine Ex.pu ?_
  refine Ex.pn ?_
  refine X.bk (k + 1) (hJ := by
   refine ⟨by omega, fun i u hi hu => ?_⟩
   rcases Nat.lt_succ_iff_lt_or_eq.1 hi with h | h
   ·exact hk2 i u h hu
   ·subst h; rw [hv] at hu; injection hu with hu; subst hu; simpa using hc2)
 ·apply X.exit
  apply X.sr
  refine Ex.pn ?_
  refine X.ret ?_
  refine RetQ.r1 ?_
  all_goals (congr 1; exact (zgS (fun i u hi => hk2 i u (by omega))).symm)
theorem zac (l : List Int) (x : Int) (hl : l.length <= 4000000000) : Fn Tryz.prog 128 [intsA l, iv x] (.bool (decide (x ∈ l))) := by
 refine Fn.go Tryz.func128 Tryz.ntmps128 (fun g w d => ?_)
 apply X.sr
 refine Ex.pu ?_
 apply Ex.ns
 iterate 2 refine Ex.pu ?_
 refine Ex.ca (zci l x hl) ?_
 refine Ex.pu ?_
 refine Ex.pn ?_
 refine X.ret ?_
 refine RetQ.r1 ?_
 all_goals (congr 1; exact zj6 x l)
theorem zfF (v : Int) (a : List Int) (b : List Bool) (ha : 1 <= a.length) (hb : 1 <= b.length) (ha2 : a.length <= 1000) (hb2 : b.length <= 1000) : FnO Tryz.prog 153 [iv v, .ptr 2000000 0 0 0, .ptr 2000001 0 0 0] [(2000000, .box [.own 2000002] 27), (2000001, .box [.own 2000003] 74), (2000002, .row intE a 3 1), (2000003, .row boolE b 4 1)] [2000000, 2000001, 2000002, 2000003] (.tup []) [(2000000, .box [.own 2000002] 27), (2000001, .box [.own 2000003] 74), (2000002, .row intE (a.set ((a.length : Int) - 1).toNat v) 3 1), (2000003, .row boolE (b.set ((b.length : Int) - 1).toNat (decide (v = 0))) 4 1)] := by
 refine FnO.intro (ts := [(0, iv v), (1, .ptr 2000000 0 0 0), (2, .ptr 2000001 0 0 0)]) (rv := []) (n := 17) (cs := [.ptr 2000000 0 0 0, .ptr 2000001 0 0 0, .own 2000002, .own 2000003]) (by kernel_rfl) Tryz.func153 rfl Tryz.ntmps153 rfl rfl (by simp) rfl rfl rfl rfl (fun g w d vs => ?_)
 refine X.drawP [⟨0, 4, .own 2000002, []⟩, ⟨1, 5, .own 2000002, []⟩, ⟨2, 6, iv a.length, [1]⟩, ⟨3, 7, iv ((a.length : Int) - 1), [1, 2]⟩, ⟨4, 8, .own 2000003, []⟩, ⟨5, 9, .own 2000003, []⟩, ⟨6, 10, iv b.length, [5]⟩, ⟨7, 11, iv ((b.length : Int) - 1), [5, 6]⟩, ⟨8, 12, iv v, []⟩, ⟨9, 13, iv v, []⟩, ⟨10, 14, .bool (decide (v = 0)), [9]⟩, ⟨11, 15, .ptr 2000002 1 ((a.length : Int) - 1).toNat 0, [8, 2, 1, 3, 0]⟩, ⟨13, 16, .ptr 2000003 1 ((b.length : Int) - 1).toNat 0, [12, 11, 10, 9, 8, 6, 5, 3, 2, 1, 0, 7, 4]⟩] [(12, [3, 2, 1, 0, 8, 11]), (14, [11, 9, 8, 7, 6, 5, 4, 3, 2, 1, 0, 12, 10, 13])] (fun j => ⟨[(0, iv v), (1, .ptr 2000000 0 0 0), (2, .ptr 2000001 0 0 0)], match j with | 0 => [(1000001, .hold vs [.ptr 2000000 0 0 0, .ptr 2000001 0 0 0, .own 2000002, .own 2000003]), (2000000, .box [.own 2000002] 27), (2000001, .box [.own 2000003] 74), (2000002, .row intE (a) 3 1), (2000003, .row boolE (b) 4 1)] | 1 => [(1000001, .hold vs [.ptr 2000000 0 0 0, .ptr 2000001 0 0 0, .own 2000002, .own 2000003]), (2000000, .box [.own 2000002] 27), (2000001, .box [.own 2000003] 74), (2000002, .row intE (a.set ((a.length : Int) - 1).toNat v) 3 1), (2000003, .row boolE (b) 4 1)] | _ => [(1000001, .hold vs [.ptr 2000000 0 0 0, .ptr 2000001 0 0 0, .own 2000002, .own 2000003]), (2000000, .box [.own 2000002] 27), (2000001, .box [.own 2000003] 74), (2000002, .row intE (a.set ((a.length : Int) - 1).toNat v) 3 1), (2000003, .row boolE (b.set ((b.length : Int) - 1).toNat (decide (v = 0))) 4 1)]⟩) mo (by kernel_rfl) (Imp.SP0 (Imp.au)) (fun j hj => ?_) (fun j c hc β hβ => ?_) ?_
 ·rcases j with _ | _ | _ | j
  ·first
    | refine ⟨.inr ⟨_, rfl, rfl, rfl, rfl, zaf rfl rfl rfl ty27⟩, ?_⟩
    | refine ⟨.inr ⟨_, rfl, rfl, rfl, rfl, zbe rfl rfl rfl ty27⟩, ?_⟩
    | refine ⟨.inr ⟨_, rfl, rfl, rfl, rfl, zbf rfl rfl (by assumption) rfl rfl ty27⟩, ?_⟩
   first
    | refine ⟨.inr ⟨_, rfl, rfl, rfl, rfl, zaf rfl rfl rfl ty27⟩, ?_⟩
    | refine ⟨.inr ⟨_, rfl, rfl, rfl, rfl, zbe rfl rfl rfl ty27⟩, ?_⟩
    | refine ⟨.inr ⟨_, rfl, rfl, rfl, rfl, zbf rfl rfl (by assumption) rfl rfl ty27⟩, ?_⟩
   first
    | refine ⟨.inr ⟨_, rfl, rfl, rfl, rfl, zeq rfl sl27⟩, ?_⟩
    | refine ⟨.inr ⟨_, rfl, rfl, rfl, rfl, zdD rfl rfl sl27⟩, ?_⟩
    | refine ⟨.inr ⟨_, rfl, rfl, rfl, rfl, zcO rfl sl27⟩, ?_⟩
   refine ⟨.inr ⟨_, rfl, rfl, rfl, rfl, zkk rfl rfl (IntWalk.i64_in _ (by omega))⟩, ?_⟩
   first
    | refine ⟨.inr ⟨_, rfl, rfl, rfl, rfl, zaf rfl rfl rfl ty74⟩, ?_⟩
    | refine ⟨.inr ⟨_, rfl, rfl, rfl, rfl, zbe rfl rfl rfl ty74⟩, ?_⟩
    | refine ⟨.inr ⟨_, rfl, rfl, rfl, rfl, zbf rfl rfl (by assumption) rfl rfl ty74⟩, ?_⟩
   first
    | refine ⟨.inr ⟨_, rfl, rfl, rfl, rfl, zaf rfl rfl rfl ty74⟩, ?_⟩
    | refine ⟨.inr ⟨_, rfl, rfl, rfl, rfl, zbe rfl rfl rfl ty74⟩, ?_⟩
    | refine ⟨.inr ⟨_, rfl, rfl, rfl, rfl, zbf rfl rfl (by assumption) rfl rfl ty74⟩, ?_⟩
   first
    | refine ⟨.inr ⟨_, rfl, rfl, rfl, rfl, zeq rfl sl74⟩, ?_⟩
    | refine ⟨.inr ⟨_, rfl, rfl, rfl, rfl, zdD rfl rfl sl74⟩, ?_⟩
    | refine ⟨.inr ⟨_, rfl, rfl, rfl, rfl, zcO rfl sl74⟩, ?_⟩
   refine ⟨.inr ⟨_, rfl, rfl, rfl, rfl, zkk rfl rfl (IntWalk.i64_in _ (by omega))⟩, ?_⟩
   iterate 2 refine ⟨.inr ⟨_, rfl, rfl, rfl, rfl, zja rfl⟩, ?_⟩
   refine ⟨.inr ⟨_, rfl, rfl, rfl, rfl, zlI rfl rfl⟩, ?_⟩
   first
    | refine ⟨.inr ⟨_, rfl, rfl, rfl, rfl, zaW rfl rfl sl27 ty3 (fun _ => rfl) (by omega) (by assumption)⟩, ?_⟩
    | refine ⟨.inr ⟨_, rfl, rfl, rfl, rfl, zdi rfl rfl rfl sl27 ty3 (by omega) (by omega)⟩, ?_⟩
   repeat' (first | exact True.intro | refine ⟨.inl rfl, ?_⟩)
  ·iterate 4 refine ⟨.inl rfl, ?_⟩
   first
    | refine ⟨.inr ⟨_, rfl, rfl, rfl, rfl, zaf rfl rfl rfl ty74⟩, ?_⟩
    | refine ⟨.inr ⟨_, rfl, rfl, rfl, rfl, zbe rfl rfl rfl ty74⟩, ?_⟩
    | refine ⟨.inr ⟨_, rfl, rfl, rfl, rfl, zbf rfl rfl (by assumption) rfl rfl ty74⟩, ?_⟩
   first
    | refine ⟨.inr ⟨_, rfl, rfl, rfl, rfl, zaf rfl rfl rfl ty74⟩, ?_⟩
    | refine ⟨.inr ⟨_, rfl, rfl, rfl, rfl, zbe rfl rfl rfl ty74⟩, ?_⟩
    | refine ⟨.inr ⟨_, rfl, rfl, rfl, rfl, zbf rfl rfl (by assumption) rfl rfl ty74⟩, ?_⟩
   first
    | refine ⟨.inr ⟨_, rfl, rfl, rfl, rfl, zeq rfl sl74⟩, ?_⟩
    | refine ⟨.inr ⟨_, rfl, rfl, rfl, rfl, zdD rfl rfl sl74⟩, ?_⟩
    | refine ⟨.inr ⟨_, rfl, rfl, rfl, rfl, zcO rfl sl74⟩, ?_⟩
   refine ⟨.inr ⟨_, rfl, rfl, rfl, rfl, zkk rfl rfl (IntWalk.i64_in _ (by omega))⟩, ?_⟩
   refine ⟨.inl rfl, ?_⟩
   refine ⟨.inr ⟨_, rfl, rfl, rfl, rfl, zja rfl⟩, ?_⟩
   refine ⟨.inr ⟨_, rfl, rfl, rfl, rfl, zlI rfl rfl⟩, ?_⟩
   refine ⟨.inl rfl, ?_⟩
   first
    | refine ⟨.inr ⟨_, rfl, rfl, rfl, rfl, zaW rfl rfl sl74 ty4 (fun _ => rfl) (by omega) (by assumption)⟩, ?_⟩
    | refine ⟨.inr ⟨_, rfl, rfl, rfl, rfl, zdi rfl rfl rfl sl74 ty4 (by omega) (by omega)⟩, ?_⟩
   exact True.intro
  ·repeat' (first | exact True.intro | refine ⟨.inl rfl, ?_⟩)
  ·exact absurd (show j + 3 <= 2 from hj) (by omega)
 ·rcases j with _ | _ | j
  ·obtain rfl : (12, [3, 2, 1, 0, 8, 11]) = c := by injection hc
   refine Step1.mk rfl (StepM.pre (st0 := ⟨[(4, .own 2000002), (5, .own 2000002), (6, iv a.length), (7, iv ((a.length : Int) - 1)), (8, .ifb (β 4) (.own 2000003)), (9, .ifb (β 5) (.own 2000003)), (10, .ifb (β 6) (iv b.length)), (11, .ifb (β 7) (iv ((b.length : Int) - 1))), (12, iv v), (13, .ifb (β 9) (iv v)), (14, .ifb (β 10) (.bool (decide (v = 0)))), (15, .ptr 2000002 1 ((a.length : Int) - 1).toNat 0), (16, .ifb (β 13) (.ptr 2000003 1 ((b.length : Int) - 1).toNat 0)), (0, iv v), (1, .ptr 2000000 0 0 0), (2, .ptr 2000001 0 0 0)], [(1000001, .hold vs [.ptr 2000000 0 0 0, .ptr 2000001 0 0 0, .own 2000002, .own 2000003]), (2000000, .box [.own 2000002] 27), (2000001, .box [.own 2000003] 74), (2000002, .row intE (a) 3 1), (2000003, .row boolE (b) 4 1)]⟩) (Imp.ib) ?_)
   refine StepM.imp (zdl v rfl rfl (fun _ => rfl) (by decide) (by omega) rfl rfl rfl rfl rfl ty3) (Imp.ib)
  ·obtain rfl : (14, [11, 9, 8, 7, 6, 5, 4, 3, 2, 1, 0, 12, 10, 13]) = c := by injection hc
   refine Step1.mk rfl (StepM.pre (st0 := ⟨[(4, .own 2000002), (5, .own 2000002), (6, iv a.length), (7, iv ((a.length : Int) - 1)), (8, .own 2000003), (9, .own 2000003), (10, iv b.length), (11, iv ((b.length : Int) - 1)), (12, iv v), (13, iv v), (14, .bool (decide (v = 0))), (15, .ptr 2000002 1 ((a.length : Int) - 1).toNat 0), (16, .ptr 2000003 1 ((b.length : Int) - 1).toNat 0), (0, iv v), (1, .ptr 2000000 0 0 0), (2, .ptr 2000001 0 0 0)], [(1000001, .hold vs [.ptr 2000000 0 0 0, .ptr 2000001 0 0 0, .own 2000002, .own 2000003]), (2000000, .box [.own 2000002] 27), (2000001, .box [.own 2000003] 74), (2000002, .row intE (a.set ((a.length : Int) - 1).toNat v) 3 1), (2000003, .row boolE (b) 4 1)]⟩) (Imp.ib) ?_)
   refine StepM.imp (zdl (decide (v = 0)) rfl rfl (fun _ => rfl) (by decide) (by omega) rfl rfl rfl rfl rfl ty4) (Imp.ib)
  ·exact absurd hc (by simp)
 refine RetQO.mk (ts := []) (.inl rfl) (Imp.au) (.many (by decide) .nil)
end Go.Rse
namespace Go.Rse
open Go Go.Proofs
attribute [local irreducible] Pur StepA StepM Ex X Fn Imp LeV LeB FnO It YStep
def mkK (ch : List Int) (l : List Sg) : Nat -> List Int × List Bool × Nat
 | 0 => ([], [], 0)
 | k + 1 => match l[k]? with
  | some s => if s.Kind = 3 then ((mkK ch l k).1.set (((mkK ch l k).1.length : Int) - 1).toNat (ch.getD (mkK ch l k).2.2 0), (mkK ch l k).2.1.set (((mkK ch l k).2.1.length : Int) - 1).toNat (decide (ch.getD (mkK ch l k).2.2 0 = 0)), (mkK ch l k).2.2 + 1) else ((mkK ch l k).1 ++ [0], (mkK ch l k).2.1 ++ [false], (mkK ch l k).2.2)
  | none => mkK ch l k
theorem zfG {ch : List Int} {l : List Sg} {k : Nat} {s : Sg} (h : l[k]? = some s) (h3 : s.Kind = 3) : mkK ch l (k + 1) = ((mkK ch l k).1.set (((mkK ch l k).1.length : Int) - 1).toNat (ch.getD (mkK ch l k).2.2 0), (mkK ch l k).2.1.set (((mkK ch l k).2.1.length : Int) - 1).toNat (decide (ch.getD (mkK ch l k).2.2 0 = 0)), (mkK ch l k).2.2 + 1) := by
 simp only [mkK, h, if_pos h3]
theorem zeo {ch : List Int} {l : List Sg} {k : Nat} {s : Sg} (h : l[k]? = some s) (h3 : ¬ s.Kind = 3) : mkK ch l (k + 1) = ((mkK ch l k).1 ++ [0], (mkK ch l k).2.1 ++ [false], (mkK ch l k).2.2) := by
 simp only [mkK, h, if_neg h3]
theorem zgY (ch : List Int) (l : List Sg) : ∀ k, (mkK ch l k).1.length = (mkK ch l k).2.1.length /\ (mkK ch l k).1.length <= k /\ (mkK ch l k).2.2 = (dotsK l k).length
 | 0 => ⟨rfl, Nat.le_refl _, rfl⟩
 | k + 1 => by
  obtain ⟨h1, h2, h3⟩ := zgY ch l k
  cases hs : l[k]? with
  | none => simp only [mkK, dotsK, hs, List.append_nil]; exact ⟨h1, by omega, h3⟩
  | some s =>
   by_cases hK : s.Kind = 3
   ·rw [zfG hs hK]; simp [dotsK, hs, hK]; omega
   ·rw [zeo hs hK]; simp [dotsK, hs, hK]; omega
theorem zfk (l : List Sg) : ∀ (n k : Nat), k <= n -> (dotsK l k).length <= (dotsK l n).length
 | 0, k, h => by have : k = 0 := by omega
                 subst this; exact Nat.le_refl _
 | n + 1, k, h => by
  rcases Nat.lt_or_ge n k with h1 | h1
  ·have : k = n + 1 := by omega
   subst this; exact Nat.le_refl _
  ·have := zfk l n k h1
   simp only [dotsK, List.length_append]; omega
theorem ziD {m : Mn} {ch : List Int} {l : List Sg} (h : ckFrom m l 0 l = 0) : ∀ k, 1 <= k -> k <= l.length -> 1 <= (mkK ch l k).1.length
 | 0, h1, _ => by omega
 | k + 1, _, hk => by
  obtain ⟨s, hs⟩ : ∃ s, l[k]? = some s := ⟨_, L.gg (by omega)⟩
  by_cases hK : s.Kind = 3
  ·rw [zfG hs hK]
   simp only [List.length_set]
   rcases Nat.eq_zero_or_pos k with h0 | h0
   ·subst h0
    have := (zbd h 1 hk).2 0 s (by omega) hs
    unfold sgF at this
    rw [if_neg (by omega), if_pos hK] at this
    simp at this
   ·exact ziD h k h0 (by omega)
  ·rw [zeo hs hK]; simp
theorem zln {m : Mn} {l : List Sg} (h : ckFrom m l 0 l = 0) {k : Nat} {s : Sg} (hs : l[k]? = some s) (hK : s.Kind = 3) : 1 <= k := by
 rcases Nat.eq_zero_or_pos k with h0 | h0
 ·subst h0
  have := (zbd h 1 (List.getElem?_eq_some_iff.1 hs).1).2 0 s (by omega) hs
  unfold sgF at this
  rw [if_neg (by omega), if_pos hK] at this
  simp at this
 ·exact h0
theorem zj7 {m : Mn} {l : List Sg} (h : ckD m l = 0) : ckFrom m l 0 l = 0 := by
 unfold ckD at h; split at h
 ·exact h
 ·exact absurd h (by assumption)
def chOk (ch : List Int) (L : List (List Int)) : Prop := ((L.zip ch).all fun p => decide (p.2 ∈ p.1)) = true
instance (ch : List Int) (L : List (List Int)) : Decidable (chOk ch L) := inferInstanceAs (Decidable (_ = true))
theorem zfH {ch : List Int} {L : List (List Int)} : chOk ch L ↔ ∀ (i : Nat) x v, L[i]? = some x -> ch[i]? = some v -> v ∈ x := by
 unfold chOk
 rw [List.all_eq_true]
 constructor
 ·intro h i x v hx hv
  have := h (x, v) (List.mem_iff_getElem?.2 ⟨i, List.getElem?_zip_eq_some.2 ⟨hx, hv⟩⟩)
  simpa using this
 ·rintro h ⟨x, v⟩ hp
  obtain ⟨i, hi⟩ := List.mem_iff_getElem?.1 hp
  obtain ⟨h1, h2⟩ := List.getElem?_zip_eq_some.1 hi
  simpa using h i x v h1 h2
def mkE (m : Mn) (l : List Sg) (ch : List Int) : Int := if ckD m l = 0 then (if (mnsD m l).length = ch.length /\ chOk ch (mnsD m l) then 0 else 2) else ckD m l
def mkC (m : Mn) (l : List Sg) (ch : List Int) : List Int := if mkE m l ch = 0 then (mkK ch l l.length).1 else []
def mkA (m : Mn) (l : List Sg) (ch : List Int) : List Bool := if mkE m l ch = 0 then (mkK ch l l.length).2.1 else []
set_option maxHeartbeats 4000000 in
theorem zgZ (m : Mn) (l : List Sg) (hl : l.length <= 1000) (ch : List Int) : Fn Tryz.prog 85 [mnA m, sgsA l, intsA ch] (.tup [intsA (mkC m l ch), boolsA (mkA m l ch), iv (mkE m l ch)]) := by
 obtain ⟨L0, hX, hM⟩ : ∃ L0, (ckD m l = 0 -> L0 = mnsD m l) /\ Fn Tryz.prog 148 [mnA m, sgsA l] (.tup [listsA L0, iv (ckD m l)]) := ⟨_, fun h => if_pos h, zc8 m l hl⟩
 refine Fn.go Tryz.func85 Tryz.ntmps85 (fun g w d => ?_)
 apply X.sr
 refine Ex.ba ?_
 iterate 3 refine Ex.pu ?_
 apply Ex.ns
 iterate 2 refine Ex.pu ?_
 refine Ex.ca hM ?_
 iterate 4 refine Ex.pu ?_
 refine Ex.pn ?_
 apply X.seq
 apply X.sr
 refine Ex.pu ?_
 refine Ex.pn ?_
 refine X.cd rfl ?_ ?_<;>intro hc1
 ·have hE : mkE m l ch = ckD m l := by unfold mkE; rw [if_neg hc1]
  have hC : mkC m l ch = [] := by unfold mkC; rw [if_neg (by rw [hE]; exact hc1)]
  have hA : mkA m l ch = [] := by unfold mkA; rw [if_neg (by rw [hE]; exact hc1)]
  apply X.sr
  iterate 3 refine Ex.pu ?_
  refine Ex.pn ?_
  refine X.ret ?_
  refine RetQ.imp (Imp.au (ts := [(6, intsA []), (7, boolsA []), (8, iv (ckD m l))]) (hs := [])) ?_
  refine RetQ.ret (.many (by decide) (.cons (.tmp rfl (LeV.eq ?_)) (.cons (.tmp rfl (LeV.eq ?_)) (.cons (.tmp rfl (LeV.eq ?_)) .nil))))
  all_goals (first | (rw [hC]; done) | (rw [hA]; done) | (rw [hE]; done) | (rw [hC]; rfl) | (rw [hA]; rfl) | (rw [hE]; rfl))
 have hX2 := hX hc1
 subst hX2
 have hml := zhC m l
 have hcf := zj7 hc1
 have hdl : (mnsD m l).length = (dotsK l l.length).length := by simp [mnsD]
 apply X.skip
 apply X.seq
 apply X.sr
 iterate 4 refine Ex.pu ?_
 refine Ex.pn ?_
 refine X.cd rfl ?_ ?_<;>intro hc2
 ·have hE : mkE m l ch = 2 := by unfold mkE; rw [if_pos hc1, if_neg (fun h => by have := h.1; omega)]
  have hC : mkC m l ch = [] := by unfold mkC; rw [if_neg (by omega)]
  have hA : mkA m l ch = [] := by unfold mkA; rw [if_neg (by omega)]
  apply X.sr
  iterate 2 refine Ex.pu ?_
  refine Ex.pn ?_
  refine X.ret ?_
  refine RetQ.imp (Imp.au (ts := [(6, intsA []), (7, boolsA []), (8, iv 2)]) (hs := [])) ?_
  refine RetQ.ret (.many (by decide) (.cons (.tmp rfl (LeV.eq ?_)) (.cons (.tmp rfl (LeV.eq ?_)) (.cons (.tmp rfl (LeV.eq ?_)) .nil))))
  all_goals (first | (rw [hC]; done) | (rw [hA]; done) | (rw [hE]; done) | (rw [hC]; rfl) | (rw [hA]; rfl) | (rw [hE]; rfl))
 apply X.skip
 apply X.seq
 apply X.sr
 iterate 2 refine Ex.pu ?_
 refine Ex.pn ?_
 apply X.block
 refine X.lp (ι := Nat) (fun (k : Nat) => [(1, sgsA l), (2, intsA ch), (9, listsA (mnsD m l)), (33, listsA (mnsD m l)), (34, iv (mnsD m l).length), (35, iv (k : Int))]) (fun (k : Nat) => []) (fun (k : Nat) => k <= (mnsD m l).length /\ ∀ i, i < k -> ∀ x v, (mnsD m l)[i]? = some x -> ch[i]? = some v -> v ∈ x) (fun (k : Nat) => (mnsD m l).length - k) 0 (fun k hk => ?_) (hJ := by
  exact ⟨by omega, fun i h => absurd h (Nat.not_lt_zero i)⟩)
 obtain ⟨hk1, hk2⟩ := hk
 apply X.sr
 refine Ex.pn ?_
 apply X.seq
 refine X.cd rfl ?_ ?_<;>intro hc3
 ·obtain ⟨x, hx⟩ : ∃ x, (mnsD m l)[k]? = some x := ⟨_, L.gg (by omega)⟩
  have hx2 : (mnsD m l)[(k : Int).toNat]? = some x := by simpa using hx
  obtain ⟨c, hcc⟩ : ∃ c, ch[k]? = some c := ⟨_, L.gg (by omega)⟩
  have hcc2 : ch[(k : Int).toNat]? = some c := by simpa using hcc
  have hxl := ziB (List.mem_of_getElem? hx)
  apply X.skip
  apply X.seq
  apply X.block
  apply X.sr
  iterate 5 refine Ex.pu ?_
  apply Ex.ns
  iterate 5 refine Ex.pu ?_
  refine Ex.ca (zac x c (by omega)) ?_
  refine Ex.pn ?_
  refine X.cd rfl ?_ ?_<;>intro hc4
  ·have hE : mkE m l ch = 2 := by unfold mkE; rw [if_pos hc1, if_neg (fun h => hc4 (zfH.1 h.2 k x c hx hcc))]
   have hC : mkC m l ch = [] := by unfold mkC; rw [if_neg (by omega)]
   have hA : mkA m l ch = [] := by unfold mkA; rw [if_neg (by omega)]
   apply X.sr
   iterate 2 refine Ex.pu ?_
   refine Ex.pn ?_
   refine X.ret ?_
   refine RetQ.imp (Imp.au (ts := [(6, intsA []), (7, boolsA []), (8, iv 2)]) (hs := [])) ?_
   refine RetQ.ret (.many (by decide) (.cons (.tmp rfl (LeV.eq ?_)) (.cons (.tmp rfl (LeV.eq ?_)) (.cons (.tmp rfl (LeV.eq ?_)) .nil))))
   all_goals (first | (rw [hC]; done) | (rw [hA]; done) | (rw [hE]; done) | (rw [hC]; rfl) | (rw [hA]; rfl) | (rw [hE]; rfl))
  apply X.skip
  apply X.region
  refine Ex.pu ?_
  refine Ex.pn ?_
  refine X.bk (k + 1) (hJ := by
   refine ⟨by omega, fun i hi x1 v1 h1 h2 => ?_⟩
   rcases Nat.lt_succ_iff_lt_or_eq.1 hi with h | h
   ·exact hk2 i h x1 v1 h1 h2
   ·subst h; rw [hx] at h1; rw [hcc] at h2; injection h1 with h1; injection h2 with h2; subst h1; subst h2; exact hc4)
 ·have hok : chOk ch (mnsD m l) := zfH.2 fun i x v hx hv => hk2 i (by have := (List.getElem?_eq_some_iff.1 hx).1; omega) x v hx hv
  have hE : mkE m l ch = 0 := by unfold mkE; rw [if_pos hc1, if_pos ⟨by omega, hok⟩]
  have hC : mkC m l ch = (mkK ch l l.length).1 := by unfold mkC; rw [if_pos hE]
  have hA : mkA m l ch = (mkK ch l l.length).2.1 := by unfold mkA; rw [if_pos hE]
  apply X.exit
  apply X.sr
  refine Ex.al ?_
  apply Ex.ns
  refine Ex.al ?_
  apply Ex.nil
  apply X.seq
  refine X.imp (Imp.mkrowB intE 3 1 13 101 27 rfl rfl) ?_
  refine X.imp (Imp.mkrowB boolE 4 1 14 102 74 rfl rfl) ?_
  apply X.region
  iterate 2 refine Ex.pu ?_
  apply Ex.ns
  refine Ex.pn ?_
  apply X.seq
  apply X.sr
  iterate 2 refine Ex.pu ?_
  refine Ex.pn ?_
  apply X.block
  refine X.lp (ι := Nat) (fun (k : Nat) => [(2, intsA ch), (13, .ptr 13 0 0 0), (14, .ptr 14 0 0 0), (15, .fn 153 [.ptr 13 0 0 0, .ptr 14 0 0 0]), (16, iv ((mkK ch l k).2.2 : Int)), (49, sgsA l), (50, iv l.length), (51, iv (k : Int))]) (fun (k : Nat) => [(13, .box [.own 101] 27), (14, .box [.own 102] 74), (101, .row intE (mkK ch l k).1 3 1), (102, .row boolE (mkK ch l k).2.1 4 1)]) (fun (k : Nat) => k <= l.length) (fun (k : Nat) => l.length - k) 0 (fun k hk => ?_)
  apply X.sr
  refine Ex.pn ?_
  apply X.seq
  refine X.cd rfl ?_ ?_<;>intro hc5
  ·obtain ⟨s, hs⟩ : ∃ s, l[k]? = some s := ⟨_, L.gg (by omega)⟩
   have hs2 : l[(k : Int).toNat]? = some s := by simpa using hs
   obtain ⟨hm1, hm2, hm3⟩ := zgY ch l k
   apply X.skip
   apply X.seq
   apply X.block
   apply X.sr
   iterate 2 refine Ex.pu ?_
   refine Ex.al ?_
   refine Ex.mo ?_
   apply Ex.nil
   apply X.seq
   apply X.sr
   iterate 2 refine Ex.pu ?_
   refine Ex.pn ?_
   refine X.cd rfl ?_ ?_<;>intro hc6
   ·have h6 := zfG (ch := ch) hs hc6
    have hmo := zfk l l.length (k + 1) (by omega)
    have hdk : (dotsK l (k + 1)).length = (dotsK l k).length + 1 := by simp [dotsK, hs, hc6]
    have hkp := zln hcf hs hc6
    have hpos := ziD (ch := ch) hcf k hkp (by omega)
    have hcq : ch[((mkK ch l k).2.2 : Int).toNat]? = some (ch.getD (mkK ch l k).2.2 0) := by rw [Int.toNat_natCast, List.getD_eq_getElem?_getD, L.gg (by omega)]; rfl
    have hr1 : (mkK ch l k).1.set (((mkK ch l k).1.length : Int) - 1).toNat (ch.getD (mkK ch l k).2.2 0) = (mkK ch l (k + 1)).1 := by rw [h6]
    have hr2 : (mkK ch l k).2.1.set (((mkK ch l k).2.1.length : Int) - 1).toNat (decide (ch.getD (mkK ch l k).2.2 0 = 0)) = (mkK ch l (k + 1)).2.1 := by rw [h6]
    have hq1 : ((mkK ch l k).2.2 : Int) + 1 = ((mkK ch l (k + 1)).2.2 : Int) := by rw [h6]; simp
    apply X.sr
    iterate 5 refine Ex.pu ?_
    refine Ex.callO' [(2000000, 13), (2000001, 14), (2000002, 101), (2000003, 102)] (zfF (ch.getD (mkK ch l k).2.2 0) (mkK ch l k).1 (mkK ch l k).2.1 (by omega) (by omega) (by omega) (by omega)) rfl rfl rfl (LeL.refl _) rfl rfl ⟨⟨_, _, rfl, rfl, LeB.refl _, rfl⟩, ⟨_, _, rfl, rfl, LeB.refl _, rfl⟩, ⟨_, _, rfl, rfl, LeB.refl _, rfl⟩, ⟨_, _, rfl, rfl, LeB.refl _, rfl⟩, trivial⟩ rfl rfl rfl rfl ?_
    apply Ex.ns
    iterate 2 refine Ex.pu ?_
    refine Ex.pn ?_
    apply X.exit
    apply X.region
    refine Ex.pu ?_
    refine Ex.pn ?_
    refine X.bk (k + 1)
   have h6 := zeo (ch := ch) hs hc6
   have hr1 : (mkK ch l k).1 ++ [0] = (mkK ch l (k + 1)).1 := by rw [h6]
   have hr2 : (mkK ch l k).2.1 ++ [false] = (mkK ch l (k + 1)).2.1 := by rw [h6]
   have hq1 : ((mkK ch l k).2.2 : Int) = ((mkK ch l (k + 1)).2.2 : Int) := by rw [h6]
   apply X.skip
   refine X.drawN' [⟨[(2, intsA ch), (13, .ptr 13 0 0 0), (14, .ptr 14 0 0 0), (15, .fn 153 [.ptr 13 0 0 0, .ptr 14 0 0 0]), (16, iv ((mkK ch l k).2.2 : Int)), (49, sgsA l), (50, iv l.length), (51, iv (k : Int))], [(13, .box [.own 101] 27), (14, .box [.own 102] 74), (101, .row intE ((mkK ch l k).1) 3 1), (102, .row boolE ((mkK ch l k).2.1) 4 1)]⟩, ⟨[(2, intsA ch), (13, .ptr 13 0 0 0), (14, .ptr 14 0 0 0), (15, .fn 153 [.ptr 13 0 0 0, .ptr 14 0 0 0]), (16, iv ((mkK ch l k).2.2 : Int)), (49, sgsA l), (50, iv l.length), (51, iv (k : Int)), (66, .own 101)], [(13, .box [.own 101] 27), (14, .box [.own 102] 74), (101, .row intE ((mkK ch l k).1) 3 1), (102, .row boolE ((mkK ch l k).2.1) 4 1)]⟩, ⟨[(2, intsA ch), (13, .ptr 13 0 0 0), (14, .ptr 14 0 0 0), (15, .fn 153 [.ptr 13 0 0 0, .ptr 14 0 0 0]), (16, iv ((mkK ch l k).2.2 : Int)), (49, sgsA l), (50, iv l.length), (51, iv (k : Int)), (67, .own 67)], [(67, .row intE [0] 3 1), (13, .box [.own 101] 27), (14, .box [.own 102] 74), (101, .row intE ((mkK ch l k).1) 3 1), (102, .row boolE ((mkK ch l k).2.1) 4 1)]⟩, ⟨[(2, intsA ch), (13, .ptr 13 0 0 0), (14, .ptr 14 0 0 0), (15, .fn 153 [.ptr 13 0 0 0, .ptr 14 0 0 0]), (16, iv ((mkK ch l k).2.2 : Int)), (49, sgsA l), (50, iv l.length), (51, iv (k : Int)), (69, .own 102)], [(13, .box [.own 101] 27), (14, .box [.own 102] 74), (101, .row intE ((mkK ch l k).1) 3 1), (102, .row boolE ((mkK ch l k).2.1) 4 1)]⟩, ⟨[(2, intsA ch), (13, .ptr 13 0 0 0), (14, .ptr 14 0 0 0), (15, .fn 153 [.ptr 13 0 0 0, .ptr 14 0 0 0]), (16, iv ((mkK ch l k).2.2 : Int)), (49, sgsA l), (50, iv l.length), (51, iv (k : Int)), (70, .own 70)], [(70, .row boolE [false] 4 1), (13, .box [.own 101] 27), (14, .box [.own 102] 74), (101, .row intE ((mkK ch l k).1) 3 1), (102, .row boolE ((mkK ch l k).2.1) 4 1)]⟩, ⟨[(2, intsA ch), (13, .ptr 13 0 0 0), (14, .ptr 14 0 0 0), (15, .fn 153 [.ptr 13 0 0 0, .ptr 14 0 0 0]), (16, iv ((mkK ch l k).2.2 : Int)), (49, sgsA l), (50, iv l.length), (51, iv (k : Int)), (66, .own 101), (67, .own 67)], [(67, .row intE [0] 3 1), (13, .box [.own 101] 27), (14, .box [.own 102] 74), (101, .row intE ((mkK ch l k).1) 3 1), (102, .row boolE ((mkK ch l k).2.1) 4 1)]⟩, ⟨[(2, intsA ch), (13, .ptr 13 0 0 0), (14, .ptr 14 0 0 0), (15, .fn 153 [.ptr 13 0 0 0, .ptr 14 0 0 0]), (16, iv ((mkK ch l k).2.2 : Int)), (49, sgsA l), (50, iv l.length), (51, iv (k : Int)), (66, .own 101), (69, .own 102)], [(13, .box [.own 101] 27), (14, .box [.own 102] 74), (101, .row intE ((mkK ch l k).1) 3 1), (102, .row boolE ((mkK ch l k).2.1) 4 1)]⟩, ⟨[(2, intsA ch), (13, .ptr 13 0 0 0), (14, .ptr 14 0 0 0), (15, .fn 153 [.ptr 13 0 0 0, .ptr 14 0 0 0]), (16, iv ((mkK ch l k).2.2 : Int)), (49, sgsA l), (50, iv l.length), (51, iv (k : Int)), (66, .own 101), (70, .own 70)], [(70, .row boolE [false] 4 1), (13, .box [.own 101] 27), (14, .box [.own 102] 74), (101, .row intE ((mkK ch l k).1) 3 1), (102, .row boolE ((mkK ch l k).2.1) 4 1)]⟩, ⟨[(2, intsA ch), (13, .ptr 13 0 0 0), (14, .ptr 14 0 0 0), (15, .fn 153 [.ptr 13 0 0 0, .ptr 14 0 0 0]), (16, iv ((mkK ch l k).2.2 : Int)), (49, sgsA l), (50, iv l.length), (51, iv (k : Int)), (67, .own 67), (69, .own 102)], [(67, .row intE [0] 3 1), (13, .box [.own 101] 27), (14, .box [.own 102] 74), (101, .row intE ((mkK ch l k).1) 3 1), (102, .row boolE ((mkK ch l k).2.1) 4 1)]⟩, ⟨[(2, intsA ch), (13, .ptr 13 0 0 0), (14, .ptr 14 0 0 0), (15, .fn 153 [.ptr 13 0 0 0, .ptr 14 0 0 0]), (16, iv ((mkK ch l k).2.2 : Int)), (49, sgsA l), (50, iv l.length), (51, iv (k : Int)), (67, .own 67), (70, .own 70)], [(67, .row intE [0] 3 1), (70, .row boolE [false] 4 1), (13, .box [.own 101] 27), (14, .box [.own 102] 74), (101, .row intE ((mkK ch l k).1) 3 1), (102, .row boolE ((mkK ch l k).2.1) 4 1)]⟩, ⟨[(2, intsA ch), (13, .ptr 13 0 0 0), (14, .ptr 14 0 0 0), (15, .fn 153 [.ptr 13 0 0 0, .ptr 14 0 0 0]), (16, iv ((mkK ch l k).2.2 : Int)), (49, sgsA l), (50, iv l.length), (51, iv (k : Int)), (69, .own 102), (70, .own 70)], [(70, .row boolE [false] 4 1), (13, .box [.own 101] 27), (14, .box [.own 102] 74), (101, .row intE ((mkK ch l k).1) 3 1), (102, .row boolE ((mkK ch l k).2.1) 4 1)]⟩, ⟨[(2, intsA ch), (13, .ptr 13 0 0 0), (14, .ptr 14 0 0 0), (15, .fn 153 [.ptr 13 0 0 0, .ptr 14 0 0 0]), (16, iv ((mkK ch l k).2.2 : Int)), (49, sgsA l), (50, iv l.length), (51, iv (k : Int)), (68, .own 101)], [(13, .box [.any] 27), (14, .box [.own 102] 74), (101, .row intE ((mkK ch l k).1 ++ [0]) 3 1), (102, .row boolE ((mkK ch l k).2.1) 4 1)]⟩, ⟨[(2, intsA ch), (13, .ptr 13 0 0 0), (14, .ptr 14 0 0 0), (15, .fn 153 [.ptr 13 0 0 0, .ptr 14 0 0 0]), (16, iv ((mkK ch l k).2.2 : Int)), (49, sgsA l), (50, iv l.length), (51, iv (k : Int)), (66, .own 101), (67, .own 67), (69, .own 102)], [(67, .row intE [0] 3 1), (13, .box [.own 101] 27), (14, .box [.own 102] 74), (101, .row intE ((mkK ch l k).1) 3 1), (102, .row boolE ((mkK ch l k).2.1) 4 1)]⟩, ⟨[(2, intsA ch), (13, .ptr 13 0 0 0), (14, .ptr 14 0 0 0), (15, .fn 153 [.ptr 13 0 0 0, .ptr 14 0 0 0]), (16, iv ((mkK ch l k).2.2 : Int)), (49, sgsA l), (50, iv l.length), (51, iv (k : Int)), (66, .own 101), (67, .own 67), (70, .own 70)], [(67, .row intE [0] 3 1), (70, .row boolE [false] 4 1), (13, .box [.own 101] 27), (14, .box [.own 102] 74), (101, .row intE ((mkK ch l k).1) 3 1), (102, .row boolE ((mkK ch l k).2.1) 4 1)]⟩, ⟨[(2, intsA ch), (13, .ptr 13 0 0 0), (14, .ptr 14 0 0 0), (15, .fn 153 [.ptr 13 0 0 0, .ptr 14 0 0 0]), (16, iv ((mkK ch l k).2.2 : Int)), (49, sgsA l), (50, iv l.length), (51, iv (k : Int)), (66, .own 101), (69, .own 102), (70, .own 70)], [(70, .row boolE [false] 4 1), (13, .box [.own 101] 27), (14, .box [.own 102] 74), (101, .row intE ((mkK ch l k).1) 3 1), (102, .row boolE ((mkK ch l k).2.1) 4 1)]⟩, ⟨[(2, intsA ch), (13, .ptr 13 0 0 0), (14, .ptr 14 0 0 0), (15, .fn 153 [.ptr 13 0 0 0, .ptr 14 0 0 0]), (16, iv ((mkK ch l k).2.2 : Int)), (49, sgsA l), (50, iv l.length), (51, iv (k : Int)), (67, .own 67), (69, .own 102), (70, .own 70)], [(67, .row intE [0] 3 1), (70, .row boolE [false] 4 1), (13, .box [.own 101] 27), (14, .box [.own 102] 74), (101, .row intE ((mkK ch l k).1) 3 1), (102, .row boolE ((mkK ch l k).2.1) 4 1)]⟩, ⟨[(2, intsA ch), (13, .ptr 13 0 0 0), (14, .ptr 14 0 0 0), (15, .fn 153 [.ptr 13 0 0 0, .ptr 14 0 0 0]), (16, iv ((mkK ch l k).2.2 : Int)), (49, sgsA l), (50, iv l.length), (51, iv (k : Int)), (68, .own 101), (69, .own 102)], [(13, .box [.any] 27), (14, .box [.own 102] 74), (101, .row intE ((mkK ch l k).1 ++ [0]) 3 1), (102, .row boolE ((mkK ch l k).2.1) 4 1)]⟩, ⟨[(2, intsA ch), (13, .ptr 13 0 0 0), (14, .ptr 14 0 0 0), (15, .fn 153 [.ptr 13 0 0 0, .ptr 14 0 0 0]), (16, iv ((mkK ch l k).2.2 : Int)), (49, sgsA l), (50, iv l.length), (51, iv (k : Int)), (68, .own 101), (70, .own 70)], [(70, .row boolE [false] 4 1), (13, .box [.any] 27), (14, .box [.own 102] 74), (101, .row intE ((mkK ch l k).1 ++ [0]) 3 1), (102, .row boolE ((mkK ch l k).2.1) 4 1)]⟩, ⟨[(2, intsA ch), (13, .ptr 13 0 0 0), (14, .ptr 14 0 0 0), (15, .fn 153 [.ptr 13 0 0 0, .ptr 14 0 0 0]), (16, iv ((mkK ch l k).2.2 : Int)), (49, sgsA l), (50, iv l.length), (51, iv (k : Int)), (66, .own 101), (67, .own 67), (69, .own 102), (70, .own 70)], [(67, .row intE [0] 3 1), (70, .row boolE [false] 4 1), (13, .box [.own 101] 27), (14, .box [.own 102] 74), (101, .row intE ((mkK ch l k).1) 3 1), (102, .row boolE ((mkK ch l k).2.1) 4 1)]⟩, ⟨[(2, intsA ch), (13, .ptr 13 0 0 0), (14, .ptr 14 0 0 0), (15, .fn 153 [.ptr 13 0 0 0, .ptr 14 0 0 0]), (16, iv ((mkK ch l k).2.2 : Int)), (49, sgsA l), (50, iv l.length), (51, iv (k : Int)), (68, .own 101), (69, .own 102), (70, .own 70)], [(70, .row boolE [false] 4 1), (13, .box [.any] 27), (14, .box [.own 102] 74), (101, .row intE ((mkK ch l k).1 ++ [0]) 3 1), (102, .row boolE ((mkK ch l k).2.1) 4 1)]⟩, ⟨[(2, intsA ch), (13, .ptr 13 0 0 0), (14, .ptr 14 0 0 0), (15, .fn 153 [.ptr 13 0 0 0, .ptr 14 0 0 0]), (16, iv ((mkK ch l k).2.2 : Int)), (49, sgsA l), (50, iv l.length), (51, iv (k : Int)), (68, .own 101), (71, .own 102)], [(13, .box [.any] 27), (14, .box [.any] 74), (101, .row intE ((mkK ch l k).1 ++ [0]) 3 1), (102, .row boolE ((mkK ch l k).2.1 ++ [false]) 4 1)]⟩, ⟨[(2, intsA ch), (13, .ptr 13 0 0 0), (14, .ptr 14 0 0 0), (15, .fn 153 [.ptr 13 0 0 0, .ptr 14 0 0 0]), (16, iv ((mkK ch l k).2.2 : Int)), (49, sgsA l), (50, iv l.length), (51, iv (k : Int)), (71, .own 102)], [(13, .box [.own 101] 27), (14, .box [.any] 74), (101, .row intE ((mkK ch l k).1 ++ [0]) 3 1), (102, .row boolE ((mkK ch l k).2.1 ++ [false]) 4 1)]⟩, ⟨[(2, intsA ch), (13, .ptr 13 0 0 0), (14, .ptr 14 0 0 0), (15, .fn 153 [.ptr 13 0 0 0, .ptr 14 0 0 0]), (16, iv ((mkK ch l k).2.2 : Int)), (49, sgsA l), (50, iv l.length), (51, iv (k : Int))], [(13, .box [.own 101] 27), (14, .box [.own 102] 74), (101, .row intE ((mkK ch l k).1 ++ [0]) 3 1), (102, .row boolE ((mkK ch l k).2.1 ++ [false]) 4 1)]⟩] [[false, false, false, false, false, false, false, false], [true, false, false, false, false, false, false, false], [false, true, false, false, false, false, false, false], [false, false, false, true, false, false, false, false], [false, false, false, false, true, false, false, false], [true, true, false, false, false, false, false, false], [true, false, false, true, false, false, false, false], [true, false, false, false, true, false, false, false], [false, true, false, true, false, false, false, false], [false, true, false, false, true, false, false, false], [false, false, false, true, true, false, false, false], [true, true, true, false, false, false, false, false], [true, true, false, true, false, false, false, false], [true, true, false, false, true, false, false, false], [true, false, false, true, true, false, false, false], [false, true, false, true, true, false, false, false], [true, true, true, true, false, false, false, false], [true, true, true, false, true, false, false, false], [true, true, false, true, true, false, false, false], [true, true, true, true, true, false, false, false], [true, true, true, true, true, true, false, false], [true, true, true, true, true, true, true, false], [true, true, true, true, true, true, true, true]] [(0, 0, 1), (0, 1, 2), (0, 3, 3), (0, 4, 4), (1, 1, 5), (1, 3, 6), (1, 4, 7), (2, 0, 5), (2, 3, 8), (2, 4, 9), (3, 0, 6), (3, 1, 8), (3, 4, 10), (4, 0, 7), (4, 1, 9), (4, 3, 10), (5, 2, 11), (5, 3, 12), (5, 4, 13), (6, 1, 12), (6, 4, 14), (7, 1, 13), (7, 3, 14), (8, 0, 12), (8, 4, 15), (9, 0, 13), (9, 3, 15), (10, 0, 14), (10, 1, 15), (11, 3, 16), (11, 4, 17), (12, 2, 16), (12, 4, 18), (13, 2, 17), (13, 3, 18), (14, 1, 18), (15, 0, 18), (16, 4, 19), (17, 3, 19), (18, 2, 19), (19, 5, 20), (20, 6, 21), (21, 7, 22)] 22 mo rfl rfl Imp.au (by kernel_rfl) rfl (by kernel_rfl) rfl ?_ ?_
   ·refine ⟨⟨_, _, rfl, rfl, Step1.mk rfl (StepM.imp (StepA.toM (Pur.stepA (zaf rfl rfl rfl ty27)) rfl rfl) Imp.au)⟩, ?_⟩
    refine ⟨⟨_, _, rfl, rfl, Step1.mk rfl (StepM.imp (StepA.toM (zad (k := 67) (enc := intE) (l := [0]) sl27 ty3 ze3 (by decide) rfl rfl rfl rfl (by decide) (by decide) (fun _ => rfl) rfl) rfl rfl) Imp.au)⟩, ?_⟩
    refine ⟨⟨_, _, rfl, rfl, Step1.mk rfl (StepM.imp (StepA.toM (Pur.stepA (zaf rfl rfl rfl ty74)) rfl rfl) Imp.au)⟩, ?_⟩
    refine ⟨⟨_, _, rfl, rfl, Step1.mk rfl (StepM.imp (StepA.toM (zad (k := 70) (enc := boolE) (l := [false]) sl74 ty4 ze4 (by decide) rfl rfl rfl rfl (by decide) (by decide) (fun _ => rfl) rfl) rfl rfl) Imp.au)⟩, ?_⟩
    refine ⟨⟨_, _, rfl, rfl, Step1.mk rfl (StepM.imp (StepA.toM (zad (k := 67) (enc := intE) (l := [0]) sl27 ty3 ze3 (by decide) rfl rfl rfl rfl (by decide) (by decide) (fun _ => rfl) rfl) rfl rfl) Imp.au)⟩, ?_⟩
    refine ⟨⟨_, _, rfl, rfl, Step1.mk rfl (StepM.imp (StepA.toM (Pur.stepA (zaf rfl rfl rfl ty74)) rfl rfl) Imp.au)⟩, ?_⟩
    refine ⟨⟨_, _, rfl, rfl, Step1.mk rfl (StepM.imp (StepA.toM (zad (k := 70) (enc := boolE) (l := [false]) sl74 ty4 ze4 (by decide) rfl rfl rfl rfl (by decide) (by decide) (fun _ => rfl) rfl) rfl rfl) Imp.au)⟩, ?_⟩
    refine ⟨⟨_, _, rfl, rfl, Step1.mk rfl (StepM.imp (StepA.toM (Pur.stepA (zaf rfl rfl rfl ty27)) rfl rfl) Imp.au)⟩, ?_⟩
    refine ⟨⟨_, _, rfl, rfl, Step1.mk rfl (StepM.imp (StepA.toM (Pur.stepA (zaf rfl rfl rfl ty74)) rfl rfl) Imp.au)⟩, ?_⟩
    refine ⟨⟨_, _, rfl, rfl, Step1.mk rfl (StepM.imp (StepA.toM (zad (k := 70) (enc := boolE) (l := [false]) sl74 ty4 ze4 (by decide) rfl rfl rfl rfl (by decide) (by decide) (fun _ => rfl) rfl) rfl rfl) Imp.au)⟩, ?_⟩
    refine ⟨⟨_, _, rfl, rfl, Step1.mk rfl (StepM.imp (StepA.toM (Pur.stepA (zaf rfl rfl rfl ty27)) rfl rfl) Imp.au)⟩, ?_⟩
    refine ⟨⟨_, _, rfl, rfl, Step1.mk rfl (StepM.imp (StepA.toM (zad (k := 67) (enc := intE) (l := [0]) sl27 ty3 ze3 (by decide) rfl rfl rfl rfl (by decide) (by decide) (fun _ => rfl) rfl) rfl rfl) Imp.au)⟩, ?_⟩
    refine ⟨⟨_, _, rfl, rfl, Step1.mk rfl (StepM.imp (StepA.toM (zad (k := 70) (enc := boolE) (l := [false]) sl74 ty4 ze4 (by decide) rfl rfl rfl rfl (by decide) (by decide) (fun _ => rfl) rfl) rfl rfl) Imp.au)⟩, ?_⟩
    refine ⟨⟨_, _, rfl, rfl, Step1.mk rfl (StepM.imp (StepA.toM (Pur.stepA (zaf rfl rfl rfl ty27)) rfl rfl) Imp.au)⟩, ?_⟩
    refine ⟨⟨_, _, rfl, rfl, Step1.mk rfl (StepM.imp (StepA.toM (zad (k := 67) (enc := intE) (l := [0]) sl27 ty3 ze3 (by decide) rfl rfl rfl rfl (by decide) (by decide) (fun _ => rfl) rfl) rfl rfl) Imp.au)⟩, ?_⟩
    refine ⟨⟨_, _, rfl, rfl, Step1.mk rfl (StepM.imp (StepA.toM (Pur.stepA (zaf rfl rfl rfl ty74)) rfl rfl) Imp.au)⟩, ?_⟩
    refine ⟨⟨_, _, rfl, rfl, Step1.mk rfl (StepM.imp (zaX (enc := intE) (l := (mkK ch l k).1) (l2 := [0]) rfl rfl rfl rfl sl27 ti3 (by decide) (by decide) (fun _ => rfl) (fun _ => rfl) (by simp; omega) rfl) Imp.au)⟩, ?_⟩
    refine ⟨⟨_, _, rfl, rfl, Step1.mk rfl (StepM.imp (StepA.toM (Pur.stepA (zaf rfl rfl rfl ty74)) rfl rfl) Imp.au)⟩, ?_⟩
    refine ⟨⟨_, _, rfl, rfl, Step1.mk rfl (StepM.imp (StepA.toM (zad (k := 70) (enc := boolE) (l := [false]) sl74 ty4 ze4 (by decide) rfl rfl rfl rfl (by decide) (by decide) (fun _ => rfl) rfl) rfl rfl) Imp.au)⟩, ?_⟩
    refine ⟨⟨_, _, rfl, rfl, Step1.mk rfl (StepM.imp (StepA.toM (zad (k := 67) (enc := intE) (l := [0]) sl27 ty3 ze3 (by decide) rfl rfl rfl rfl (by decide) (by decide) (fun _ => rfl) rfl) rfl rfl) Imp.au)⟩, ?_⟩
    refine ⟨⟨_, _, rfl, rfl, Step1.mk rfl (StepM.imp (StepA.toM (zad (k := 70) (enc := boolE) (l := [false]) sl74 ty4 ze4 (by decide) rfl rfl rfl rfl (by decide) (by decide) (fun _ => rfl) rfl) rfl rfl) Imp.au)⟩, ?_⟩
    refine ⟨⟨_, _, rfl, rfl, Step1.mk rfl (StepM.imp (StepA.toM (zad (k := 67) (enc := intE) (l := [0]) sl27 ty3 ze3 (by decide) rfl rfl rfl rfl (by decide) (by decide) (fun _ => rfl) rfl) rfl rfl) Imp.au)⟩, ?_⟩
    refine ⟨⟨_, _, rfl, rfl, Step1.mk rfl (StepM.imp (StepA.toM (Pur.stepA (zaf rfl rfl rfl ty74)) rfl rfl) Imp.au)⟩, ?_⟩
    refine ⟨⟨_, _, rfl, rfl, Step1.mk rfl (StepM.imp (StepA.toM (Pur.stepA (zaf rfl rfl rfl ty27)) rfl rfl) Imp.au)⟩, ?_⟩
    refine ⟨⟨_, _, rfl, rfl, Step1.mk rfl (StepM.imp (StepA.toM (zad (k := 70) (enc := boolE) (l := [false]) sl74 ty4 ze4 (by decide) rfl rfl rfl rfl (by decide) (by decide) (fun _ => rfl) rfl) rfl rfl) Imp.au)⟩, ?_⟩
    refine ⟨⟨_, _, rfl, rfl, Step1.mk rfl (StepM.imp (StepA.toM (Pur.stepA (zaf rfl rfl rfl ty27)) rfl rfl) Imp.au)⟩, ?_⟩
    refine ⟨⟨_, _, rfl, rfl, Step1.mk rfl (StepM.imp (StepA.toM (Pur.stepA (zaf rfl rfl rfl ty74)) rfl rfl) Imp.au)⟩, ?_⟩
    refine ⟨⟨_, _, rfl, rfl, Step1.mk rfl (StepM.imp (StepA.toM (Pur.stepA (zaf rfl rfl rfl ty27)) rfl rfl) Imp.au)⟩, ?_⟩
    refine ⟨⟨_, _, rfl, rfl, Step1.mk rfl (StepM.imp (StepA.toM (zad (k := 67) (enc := intE) (l := [0]) sl27 ty3 ze3 (by decide) rfl rfl rfl rfl (by decide) (by decide) (fun _ => rfl) rfl) rfl rfl) Imp.au)⟩, ?_⟩
    refine ⟨⟨_, _, rfl, rfl, Step1.mk rfl (StepM.imp (StepA.toM (Pur.stepA (zaf rfl rfl rfl ty74)) rfl rfl) Imp.au)⟩, ?_⟩
    refine ⟨⟨_, _, rfl, rfl, Step1.mk rfl (StepM.imp (StepA.toM (zad (k := 70) (enc := boolE) (l := [false]) sl74 ty4 ze4 (by decide) rfl rfl rfl rfl (by decide) (by decide) (fun _ => rfl) rfl) rfl rfl) Imp.au)⟩, ?_⟩
    refine ⟨⟨_, _, rfl, rfl, Step1.mk rfl (StepM.imp (zaX (enc := intE) (l := (mkK ch l k).1) (l2 := [0]) rfl rfl rfl rfl sl27 ti3 (by decide) (by decide) (fun _ => rfl) (fun _ => rfl) (by simp; omega) rfl) Imp.au)⟩, ?_⟩
    refine ⟨⟨_, _, rfl, rfl, Step1.mk rfl (StepM.imp (StepA.toM (zad (k := 70) (enc := boolE) (l := [false]) sl74 ty4 ze4 (by decide) rfl rfl rfl rfl (by decide) (by decide) (fun _ => rfl) rfl) rfl rfl) Imp.au)⟩, ?_⟩
    refine ⟨⟨_, _, rfl, rfl, Step1.mk rfl (StepM.imp (zaX (enc := intE) (l := (mkK ch l k).1) (l2 := [0]) rfl rfl rfl rfl sl27 ti3 (by decide) (by decide) (fun _ => rfl) (fun _ => rfl) (by simp; omega) rfl) Imp.au)⟩, ?_⟩
    refine ⟨⟨_, _, rfl, rfl, Step1.mk rfl (StepM.imp (StepA.toM (Pur.stepA (zaf rfl rfl rfl ty74)) rfl rfl) Imp.au)⟩, ?_⟩
    refine ⟨⟨_, _, rfl, rfl, Step1.mk rfl (StepM.imp (StepA.toM (zad (k := 67) (enc := intE) (l := [0]) sl27 ty3 ze3 (by decide) rfl rfl rfl rfl (by decide) (by decide) (fun _ => rfl) rfl) rfl rfl) Imp.au)⟩, ?_⟩
    refine ⟨⟨_, _, rfl, rfl, Step1.mk rfl (StepM.imp (StepA.toM (Pur.stepA (zaf rfl rfl rfl ty27)) rfl rfl) Imp.au)⟩, ?_⟩
    refine ⟨⟨_, _, rfl, rfl, Step1.mk rfl (StepM.imp (StepA.toM (zad (k := 70) (enc := boolE) (l := [false]) sl74 ty4 ze4 (by decide) rfl rfl rfl rfl (by decide) (by decide) (fun _ => rfl) rfl) rfl rfl) Imp.au)⟩, ?_⟩
    refine ⟨⟨_, _, rfl, rfl, Step1.mk rfl (StepM.imp (StepA.toM (Pur.stepA (zaf rfl rfl rfl ty74)) rfl rfl) Imp.au)⟩, ?_⟩
    refine ⟨⟨_, _, rfl, rfl, Step1.mk rfl (StepM.imp (zaX (enc := intE) (l := (mkK ch l k).1) (l2 := [0]) rfl rfl rfl rfl sl27 ti3 (by decide) (by decide) (fun _ => rfl) (fun _ => rfl) (by simp; omega) rfl) Imp.au)⟩, ?_⟩
    refine ⟨⟨_, _, rfl, rfl, Step1.mk rfl (StepM.imp (zaX (enc := boolE) (l := (mkK ch l k).2.1) (l2 := [false]) rfl rfl rfl rfl sl74 ti4 (by decide) (by decide) (fun _ => rfl) (fun _ => rfl) (by simp; omega) rfl) Imp.au)⟩, ?_⟩
    refine ⟨⟨_, _, rfl, rfl, Step1.mk rfl (StepM.imp (zbg rfl rfl rfl rfl ty27 (ltB rfl)) Imp.au)⟩, ?_⟩
    refine ⟨⟨_, _, rfl, rfl, Step1.mk rfl (StepM.imp (zbg rfl rfl rfl rfl ty74 (ltB rfl)) Imp.au)⟩, ?_⟩
    exact True.intro
   apply X.region
   refine Ex.pu ?_
   refine Ex.pn ?_
   refine X.bk (k + 1)
  ·have hkl : k = l.length := by omega
   subst hkl
   apply X.exit
   apply X.seq
   refine X.dw [6,7,8,73,74] [0,0,1,7,15] mo ?_
   iterate 5 refine ChM.pu ?_
   refine ChM.tl ?_
   apply Ex.nil
   refine X.ret ?_
   refine RetQ.imp ((Imp.freeze (k := 101) rfl).trans (Imp.freeze (k := 102) rfl)) ?_
   refine RetQ.ret (.many (by decide) (.cons (.tmp rfl (LeV.eq ?_)) (.cons (.tmp rfl (LeV.eq ?_)) (.cons (.tmp rfl (LeV.eq ?_)) .nil))))
   all_goals (first | (rw [hC]; done) | (rw [hA]; done) | (rw [hE]; done) | (rw [hC]; rfl) | (rw [hA]; rfl) | (rw [hE]; rfl))
end Go.Rse
