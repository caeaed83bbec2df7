/-
  Walks: the meaning of each dot by the rule.
-/
import Derived.Test.YteecbmgddacioaaDot5
namespace Go.Rse
open Go Go.Proofs
set_option linter.unusedVariables false
set_option linter.unusedSimpArgs false
attribute [local irreducible] Pur StepA StepM Ex X ExG Fn Imp LeV LeB FnO It YStep
/-- The value behind a place, 9 if there is none. -/
def nextV (l : List Sg) (i : Int) : Int := match l[(i + 1).toNat]? with | some s => s.Value | none => 9
/-- The meaning by the rule of a dot at place i, behind the sign p. -/
def choice (m : Mn) (l : List Sg) (i : Int) (p : Sg) : Int :=
  if (mngs m p).length = 2 then (if nextV l i ≤ p.Value then m.aV p.Value else if m.pV p.Value = 3 then p.Value else 0) else (mngs m p).headD 0
def ruleAt (m : Mn) (l : List Sg) (i : Int) : Int := match prevS l i with | some p => choice m l i p | none => 0
def ruleD (m : Mn) (l : List Sg) : List Int := (dotsK l l.length).map (ruleAt m l)
theorem rule_take {m : Mn} {l : List Sg} {L : List Int} {k : Nat} {x : Int} {p : Sg} (h : L[k]? = some x) (hp : l[(x - 1).toNat]? = some p) : (L.take k).map (ruleAt m l) ++ [choice m l x p] = (L.take (k + 1)).map (ruleAt m l) := by
  have e : ruleAt m l x = choice m l x p := by unfold ruleAt prevS; rw [hp]
  rw [List.take_add_one, h]
  simp [e]
theorem dotsK_ne {m : Mn} {l : List Sg} (h : ckFrom m l 0 l = 0) : ∀ k, k ≤ l.length → ∀ x, x ∈ dotsK l k → ∀ p, l[(x - 1).toNat]? = some p → (mngs m p).length ≠ 0
  | 0, _, x, hx => by simp [dotsK] at hx
  | k + 1, hk, x, hx => by
    simp only [dotsK, List.mem_append] at hx
    rcases hx with hx | hx
    · exact dotsK_ne h k (by omega) x hx
    · have hs : l[k]? = some l[k] := List.getElem?_eq_getElem (by omega)
      simp only [hs] at hx
      split at hx
      · rename_i hK
        have h0 := (ckFrom_all h (k + 1) hk).2 k _ (by omega) hs
        simp at hx
        intro p hp
        cases k with
        | zero => unfold sgF at h0; rw [if_neg (by omega), if_pos hK] at h0; simp at h0
        | succ j =>
          rw [show (x - 1).toNat = j by omega] at hp
          unfold sgF at h0
          rw [if_neg (by omega), if_pos hK] at h0
          simp only [hp] at h0
          intro hz
          rw [if_pos (.inr hz)] at h0
          simp at h0
      · simp at hx
theorem mnsD_get {m : Mn} {l : List Sg} {k : Nat} {x : Int} {p : Sg} (h : (dotsK l l.length)[k]? = some x) (hp : l[(x - 1).toNat]? = some p) : (mnsD m l)[k]? = some (mngs m p) := by
  have e : mnAt m l x = mngs m p := by unfold mnAt prevS; rw [hp]
  rw [mnsD, List.getElem?_map, h]
  simp [e]
theorem C_dot_Rule_1 (l : List Sg) (hl : l.length ≤ 1000) (i : Int) (h0 : 0 ≤ i) (h1 : i ≤ 1000) : Fn Try.prog 118 [iv i, .ept (fun _ : Unit => [sgsA l]) () 0] (iv (nextV l i)) := by
  refine Fn.go Try.func118 Try.ntmps118 (fun g w d => ?_)
  refine X.seq ?_
  refine X.region ?_
  refine Ex.pu ?_
  refine Ex.nil ?_
  refine X.seq ?_
  refine X.seq ?_
  refine X.region ?_
  iterate 5 refine Ex.pu ?_
  refine Ex.nil ?_
  refine X.cd rfl (fun hc1 => ?_) (fun hc1 => ?_)
  · obtain ⟨s, hs⟩ : ∃ s, l[(i + 1).toNat]? = some s := ⟨_, List.getElem?_eq_getElem (by omega)⟩
    refine X.seq ?_
    refine X.region ?_
    iterate 7 refine Ex.pu ?_
    refine Ex.nil ?_
    refine X.ret ?_
    refine RetQ.ret (.one (.tmp rfl (LeV.eq ?_)))
    all_goals (congr 1; unfold nextV; rw [hs])
  have hs : l[(i + 1).toNat]? = none := List.getElem?_eq_none (by omega)
  refine X.skip ?_
  refine X.seq ?_
  refine X.region ?_
  refine Ex.pu ?_
  refine Ex.nil ?_
  refine X.ret ?_
  refine RetQ.ret (.one (.tmp rfl (LeV.eq ?_)))
  all_goals (congr 1; unfold nextV; rw [hs])
theorem C_dot_Rule (m : Mn) (l : List Sg) (hl : l.length ≤ 1000) : Fn Try.prog 35 [mnA m, sgsA l] (.tup [intsA (if ckD m l = 0 then ruleD m l else []), iv (ckD m l)]) := by
  refine Fn.go Try.func35 Try.ntmps35 (fun g w d => ?_)
  refine X.seq ?_
  refine X.region ?_
  refine Ex.ba ?_
  refine Ex.bx ?_
  iterate 2 refine Ex.pu ?_
  refine Ex.nil ?_
  refine X.seq ?_
  refine X.region ?_
  iterate 2 refine Ex.pu ?_
  refine Ex.ca (C_dot_Meanings m l hl) ?_
  iterate 5 refine Ex.pu ?_
  refine Ex.nil ?_
  refine X.seq ?_
  refine X.seq ?_
  refine X.region ?_
  iterate 2 refine Ex.pu ?_
  refine Ex.nil ?_
  refine X.cd rfl (fun hc1 => ?_) (fun hc1 => ?_)
  · refine X.seq ?_
    refine X.region ?_
    iterate 3 refine Ex.pu ?_
    refine Ex.nil ?_
    refine X.ret ?_
    refine RetQ.imp (Imp.au (ts := [(4, intsA []), (5, iv (ckD m l))]) (hs := [])) ?_
    refine RetQ.ret (.many (by decide) (.cons (.tmp rfl (LeV.eq ?_)) (.cons (.tmp rfl (LeV.eq ?_)) .nil)))
    all_goals (first | (simp [hc1]; done) | (rw [if_pos hc1, ← hfin]; rfl) | (rw [if_neg hc1]) | (rw [hc1]; rfl) | rfl)
  refine X.skip ?_
  refine X.seq ?_
  refine X.imp (Imp.freezeBox (k := 3) rfl rfl) ?_
  have hms : (if ckD m l = 0 then mnsD m l else []) = mnsD m l := if_pos hc1
  rw [hms]
  have hcf : ckFrom m l 0 l = 0 := by unfold ckD at hc1; split at hc1
                                      · exact hc1
                                      · exact absurd hc1 (by assumption)
  refine X.region ?_
  iterate 2 refine Ex.pu ?_
  refine Ex.nil ?_
  refine X.seq ?_
  refine X.region ?_
  refine Ex.pu ?_
  refine Ex.nil ?_
  refine X.seq ?_
  refine X.seq ?_
  refine X.imp (Imp.mkrow intE 3 1 9 9 rfl rfl) ?_
  refine X.region ?_
  refine Ex.pu ?_
  refine Ex.ca (C_dot_dots l hl) ?_
  iterate 2 refine Ex.pu ?_
  refine Ex.nil ?_
  refine X.block ?_
  have hdl := dotsK_len l l.length
  refine X.lp (ι := Nat) (fun (k : Nat) => [(2, .ptr 2 0 0 0), (3, .ept (fun _ : Unit => [sgsA l]) () 0), (5, iv 0), (6, listsA (mnsD m l)), (8, .fn 118 [.ept (fun _ : Unit => [sgsA l]) () 0]), (9, .own 9), (29, intsA (dotsK l l.length)), (30, iv (dotsK l l.length).length), (31, iv (k : Int))]) (fun (k : Nat) => [(2, .box (mnE m) 23), (9, .row intE (((dotsK l l.length).take k).map (ruleAt m l)) 3 1)]) (fun (k : Nat) => k ≤ (dotsK l l.length).length) (fun (k : Nat) => (dotsK l l.length).length - k) 0 (fun k hk => ?_)
  refine X.seq ?_
  refine X.region ?_
  refine Ex.pu ?_
  refine Ex.nil ?_
  refine X.seq ?_
  refine X.cd rfl (fun hc2 => ?_) (fun hc2 => ?_)
  · obtain ⟨x, hx⟩ : ∃ x, (dotsK l l.length)[k]? = some x := ⟨_, List.getElem?_eq_getElem (by omega)⟩
    have hx2 : (dotsK l l.length)[(k : Int).toNat]? = some x := by simpa using hx
    obtain ⟨j, s, p, hj1, hj2, hj3⟩ := dotsK_mem hcf l.length (Nat.le_refl _) x (List.mem_of_getElem? hx)
    have hjl : j + 1 < l.length := (List.getElem?_eq_some_iff.1 hj2).1
    have hp : l[(x - 1).toNat]? = some p := by rw [show (x - 1).toNat = j by omega]; exact hj3
    have hne := dotsK_ne hcf l.length (Nat.le_refl _) x (List.mem_of_getElem? hx) p hp
    have hmk : (mnsD m l)[(k : Int).toNat]? = some (mngs m p) := by simpa using mnsD_get (m := m) hx hp
    obtain ⟨c0, hc0⟩ : ∃ c0, (mngs m p)[(0 : Int).toNat]? = some c0 := ⟨_, List.getElem?_eq_getElem (by simp; omega)⟩
    have hhd : (mngs m p).headD 0 = c0 := by
      cases hq : mngs m p with
      | nil => simp [hq] at hne
      | cons a b => simp [hq] at hc0; simp [hc0]
    have hrow2 := rule_take (m := m) hx hp
    have htl : (((dotsK l l.length).take k).map (ruleAt m l)).length ≤ 1000 := by simp; omega
    refine X.skip ?_
    refine X.seq ?_
    refine X.block ?_
    refine X.seq ?_
    refine X.region ?_
    iterate 5 refine Ex.pu ?_
    refine Ex.nil ?_
    refine X.seq ?_
    refine X.region ?_
    iterate 7 refine Ex.pu ?_
    refine Ex.nil ?_
    refine X.seq ?_
    refine X.region ?_
    iterate 7 refine Ex.pu ?_
    refine Ex.nil ?_
    refine X.seq ?_
    refine X.seq ?_
    refine X.region ?_
    iterate 6 refine Ex.pu ?_
    refine Ex.nil ?_
    refine X.cd rfl (fun hc3 => ?_) (fun hc3 => ?_)
    · refine X.seq ?_
      refine X.region ?_
      iterate 2 refine Ex.pu ?_
      refine Ex.ca (C_mens_Parts m p.Value) ?_
      iterate 5 refine Ex.pu ?_
      refine Ex.nil ?_
      refine X.seq ?_
      refine X.region ?_
      iterate 2 refine Ex.pu ?_
      refine Ex.ca (C_mens_Above m p.Value) ?_
      iterate 5 refine Ex.pu ?_
      refine Ex.nil ?_
      refine X.block ?_
      refine X.seq ?_
      refine X.region ?_
      iterate 2 refine Ex.pu ?_
      refine Ex.ca (C_dot_Rule_1 l hl x (by omega) (by omega)) ?_
      iterate 3 refine Ex.pu ?_
      refine Ex.nil ?_
      refine X.cd rfl (fun hc4 => ?_) (fun hc4 => ?_)
      · have hch : choice m l x p = m.aV p.Value := by unfold choice; rw [if_pos (by omega), if_pos hc4]
        rw [hch] at hrow2
        refine X.region ?_
        iterate 2 refine Ex.pu ?_
        refine Ex.nil ?_
        refine X.region ?_
        iterate 2 refine Ex.pu ?_
        refine Ex.bs intE [_] ?_
        refine Ex.mo ?_
        refine Ex.pu ?_
        refine Ex.nil ?_
        refine X.region ?_
        iterate 2 refine Ex.pu ?_
        refine Ex.nil ?_
        refine X.bk (k + 1)
      · refine X.seq ?_
        refine X.region ?_
        iterate 3 refine Ex.pu ?_
        refine Ex.nil ?_
        refine X.cd rfl (fun hc5 => ?_) (fun hc5 => ?_)
        · have hc6 : m.pV p.Value = 3 := hc5
          have hch : choice m l x p = p.Value := by unfold choice; rw [if_pos (by omega), if_neg (by omega), if_pos hc6]
          rw [hch] at hrow2
          refine X.region ?_
          iterate 2 refine Ex.pu ?_
          refine Ex.nil ?_
          refine X.region ?_
          iterate 2 refine Ex.pu ?_
          refine Ex.bs intE [_] ?_
          refine Ex.mo ?_
          refine Ex.pu ?_
          refine Ex.nil ?_
          refine X.region ?_
          iterate 2 refine Ex.pu ?_
          refine Ex.nil ?_
          refine X.bk (k + 1)
        · have hc6 : ¬ m.pV p.Value = 3 := hc5
          have hch : choice m l x p = 0 := by unfold choice; rw [if_pos (by omega), if_neg (by omega), if_neg hc6]
          rw [hch] at hrow2
          refine X.region ?_
          refine Ex.pu ?_
          refine Ex.nil ?_
          refine X.region ?_
          iterate 2 refine Ex.pu ?_
          refine Ex.bs intE [_] ?_
          refine Ex.mo ?_
          refine Ex.pu ?_
          refine Ex.nil ?_
          refine X.region ?_
          iterate 2 refine Ex.pu ?_
          refine Ex.nil ?_
          refine X.bk (k + 1)
    · have hch : choice m l x p = c0 := by unfold choice; rw [if_neg (by omega), hhd]
      rw [hch] at hrow2
      refine X.skip ?_
      refine X.region ?_
      iterate 2 refine Ex.pu ?_
      refine Ex.bs intE [_] ?_
      refine Ex.mo ?_
      refine Ex.pu ?_
      refine Ex.nil ?_
      refine X.region ?_
      iterate 2 refine Ex.pu ?_
      refine Ex.nil ?_
      refine X.bk (k + 1)
  · have hkl : k = (dotsK l l.length).length := by omega
    subst hkl
    have hfin : ((dotsK l l.length).take (dotsK l l.length).length).map (ruleAt m l) = ruleD m l := by rw [List.take_length]; rfl
    refine X.exit ?_
    refine X.seq ?_
    refine X.region ?_
    iterate 3 refine Ex.pu ?_
    refine Ex.nil ?_
    refine X.ret ?_
    refine RetQ.imp (Imp.freeze (k := 9) rfl) ?_
    refine RetQ.ret (.many (by decide) (.cons (.tmp rfl (LeV.eq ?_)) (.cons (.tmp rfl (LeV.eq ?_)) .nil)))
    all_goals (first | (simp [hc1]; done) | (rw [if_pos hc1, ← hfin]; rfl) | (rw [if_neg hc1]) | (rw [hc1]; rfl) | rfl)
end Go.Rse
