/-
  Walks: the first fault of a run.
-/
import Derived.Test.YteecbmgddacioaaDot2
namespace Go.Rse
open Go Go.Proofs
set_option linter.unusedVariables false
set_option linter.unusedSimpArgs false
attribute [local irreducible] Pur StepA StepM Ex X ExG Fn Imp LeV LeB FnO It YStep
/-- The fault of the sign k of a run under a valid mensuration. -/
def sgF (m : Mn) (l : List Sg) (k : Nat) (s : Sg) : Int :=
  if s.Kind = 1 ∨ s.Kind = 2 then (if 1 ≤ s.Value ∧ s.Value ≤ 8 then 0 else 2)
  else if s.Kind = 3 then (match k with | 0 => 13 | j + 1 => match l[j]? with | some p => if p.Kind = 3 ∨ (mngs m p).length = 0 then 13 else 0 | none => 13)
  else 8
/-- The first fault from k on. -/
def ckFrom (m : Mn) (l : List Sg) : Nat → List Sg → Int
  | _, [] => 0
  | k, s :: r => if sgF m l k s = 0 then ckFrom m l (k + 1) r else sgF m l k s
def ckD (m : Mn) (l : List Sg) : Int := if ckM m = 0 then ckFrom m l 0 l else ckM m
theorem ckFrom_ok {m : Mn} {l : List Sg} {k : Nat} {s : Sg} (h : l[k]? = some s) (h0 : sgF m l k s = 0) : ckFrom m l k (l.drop k) = ckFrom m l (k + 1) (l.drop (k + 1)) := by
  have hk : k < l.length := (List.getElem?_eq_some_iff.1 h).1
  rw [List.drop_eq_getElem_cons hk]
  have : l[k] = s := (List.getElem?_eq_some_iff.1 h).2
  rw [this]; simp only [ckFrom, h0, if_true]
theorem ckFrom_bad {m : Mn} {l : List Sg} {k : Nat} {s : Sg} (h : l[k]? = some s) (h0 : sgF m l k s ≠ 0) : ckFrom m l k (l.drop k) = sgF m l k s := by
  have hk : k < l.length := (List.getElem?_eq_some_iff.1 h).1
  rw [List.drop_eq_getElem_cons hk]
  have : l[k] = s := (List.getElem?_eq_some_iff.1 h).2
  rw [this]; simp only [ckFrom, if_neg h0]
theorem sgF_dot {m : Mn} {l : List Sg} {k : Nat} {s : Sg} (hk : k < l.length) (h3 : s.Kind = 3) : sgF m l k s = if ((k : Int) = 0 ∨ (l.getD ((k : Int) - 1).toNat default).Kind = 3) ∨ ((mngs m (l.getD ((k : Int) - 1).toNat default)).length : Int) = 0 then 13 else 0 := by
  unfold sgF
  rw [if_neg (by omega), if_pos h3]
  cases k with
  | zero => simp
  | succ j =>
    have e : (((j + 1 : Nat) : Int) - 1).toNat = j := by omega
    have hp : l[j]? = some (l.getD j default) := by rw [List.getD_eq_getElem?_getD, List.getElem?_eq_getElem (by omega)]; rfl
    rw [e]; simp only [hp]
    generalize l.getD j default = p
    by_cases h1 : p.Kind = 3
    · simp [h1]
    · by_cases h2 : (mngs m p).length = 0
      · rw [if_pos (.inr h2), if_pos (.inr (by omega))]
      · rw [if_neg (by omega), if_neg (by omega)]
theorem C_dot_Check (m : Mn) (l : List Sg) (hl : l.length ≤ 1000) : Fn Try.prog 40 [mnA m, sgsA l] (iv (ckD m l)) := by
  refine Fn.go Try.func40 Try.ntmps40 (fun g w d => ?_)
  refine X.seq ?_
  refine X.region ?_
  refine Ex.ba ?_
  refine Ex.pu ?_
  refine Ex.nil ?_
  refine X.seq ?_
  refine X.seq ?_
  refine X.region ?_
  refine Ex.pu ?_
  refine Ex.ca (C_mens_Check m) ?_
  refine Ex.pu ?_
  refine Ex.nil ?_
  refine X.seq ?_
  refine X.region ?_
  iterate 2 refine Ex.pu ?_
  refine Ex.nil ?_
  refine X.cd rfl (fun hc1 => ?_) (fun hc1 => ?_)
  · refine X.seq ?_
    refine X.region ?_
    iterate 2 refine Ex.pu ?_
    refine Ex.nil ?_
    refine X.ret ?_
    refine RetQ.ret (.one (.tmp rfl (LeV.eq ?_)))
    all_goals (first | rfl | (unfold ckD; rw [if_neg hc1]))
  refine X.skip ?_
  refine X.seq ?_
  refine X.seq ?_
  refine X.region ?_
  iterate 3 refine Ex.pu ?_
  refine Ex.nil ?_
  refine X.block ?_
  refine X.lp (ι := Nat) (fun (k : Nat) => [(1, sgsA l), (2, .ptr 2 0 0 0), (13, sgsA l), (14, iv l.length), (15, iv (k : Int))]) (fun (k : Nat) => [(2, .box (mnE m) 23)]) (fun (k : Nat) => k ≤ l.length ∧ ckD m l = ckFrom m l k (l.drop k)) (fun (k : Nat) => l.length - k) 0 (fun k hk => ?_) (hJ := by
    exact ⟨by omega, by unfold ckD; rw [if_pos hc1]; rfl⟩)
  obtain ⟨hk1, hk2⟩ := hk
  refine X.seq ?_
  refine X.region ?_
  refine Ex.pu ?_
  refine Ex.nil ?_
  refine X.seq ?_
  refine X.cd rfl (fun hc2 => ?_) (fun hc2 => ?_)
  · obtain ⟨s, hs⟩ : ∃ s, l[k]? = some s := ⟨_, List.getElem?_eq_getElem (by omega)⟩
    have hs2 : l[(k : Int).toNat]? = some s := by simpa using hs
    refine X.skip ?_
    refine X.seq ?_
    refine X.block ?_
    refine X.seq ?_
    refine X.region ?_
    iterate 3 refine Ex.pu ?_
    refine Ex.al ?_
    refine Ex.pu ?_
    refine Ex.mo ?_
    refine Ex.nil ?_
    refine X.seq ?_
    refine X.region ?_
    iterate 2 refine Ex.pu ?_
    refine Ex.nil ?_
    refine X.block ?_
    refine X.seq ?_
    refine X.seq ?_
    refine X.region ?_
    iterate 2 refine Ex.pu ?_
    refine Ex.nil ?_
    refine X.cd rfl (fun hc3 => ?_) (fun hc3 => ?_)
    · refine X.skip ?_
      refine X.cd rfl (fun hc4 => ?_) (fun hc4 => ?_)
      · refine X.seq ?_
        refine X.region ?_
        iterate 3 refine Ex.pu ?_
        refine ExF.at 3 ?_
        refine ExF.pu ?_
        iterate 3 refine ExF.gi ?_
        refine ExF.done ?_
        refine Ex.pu ?_
        refine Ex.nil ?_
        refine X.cd rfl (fun hc5 => ?_) (fun hc5 => ?_)
        · have hF : sgF m l k s = 2 := by unfold sgF; rw [if_pos (.inl hc3), if_neg (by omega)]
          refine X.seq ?_
          refine X.region ?_
          refine Ex.pu ?_
          refine Ex.nil ?_
          refine X.ret ?_
          refine RetQ.ret (.one (.tmp rfl (LeV.eq ?_)))
          all_goals (rw [hk2, ckFrom_bad hs (by rw [hF]; decide), hF])
        have h0 : sgF m l k s = 0 := by unfold sgF; rw [if_pos (.inl hc3), if_pos (by omega)]
        refine X.skip ?_
        refine X.region ?_
        iterate 2 refine Ex.pu ?_
        refine Ex.nil ?_
        refine X.bk (k + 1) (hJ := by
          exact ⟨by omega, by rw [hk2, ckFrom_ok hs h0]⟩)
      · exact absurd hc3 hc4
    · refine X.region ?_
      iterate 2 refine Ex.pu ?_
      refine Ex.nil ?_
      refine X.cd rfl (fun hc6 => ?_) (fun hc6 => ?_)
      · refine X.seq ?_
        refine X.region ?_
        iterate 3 refine Ex.pu ?_
        refine ExF.at 3 ?_
        refine ExF.pu ?_
        iterate 3 refine ExF.gi ?_
        refine ExF.done ?_
        refine Ex.pu ?_
        refine Ex.nil ?_
        refine X.cd rfl (fun hc7 => ?_) (fun hc7 => ?_)
        · have hF : sgF m l k s = 2 := by unfold sgF; rw [if_pos (.inr hc6), if_neg (by omega)]
          refine X.seq ?_
          refine X.region ?_
          refine Ex.pu ?_
          refine Ex.nil ?_
          refine X.ret ?_
          refine RetQ.ret (.one (.tmp rfl (LeV.eq ?_)))
          all_goals (rw [hk2, ckFrom_bad hs (by rw [hF]; decide), hF])
        have h0 : sgF m l k s = 0 := by unfold sgF; rw [if_pos (.inr hc6), if_pos (by omega)]
        refine X.skip ?_
        refine X.region ?_
        iterate 2 refine Ex.pu ?_
        refine Ex.nil ?_
        refine X.bk (k + 1) (hJ := by
          exact ⟨by omega, by rw [hk2, ckFrom_ok hs h0]⟩)
      · refine X.seq ?_
        refine X.region ?_
        iterate 2 refine Ex.pu ?_
        refine Ex.nil ?_
        refine X.cd rfl (fun hc8 => ?_) (fun hc8 => ?_)
        · refine X.seq ?_
          refine X.dw [35,36,37,38,39,40,41,42,43,44,45,46,47,48,49,50,51,52,53,54,55,56] [0,1,3,7,7,23,63,127,255,511,1023,2047,4095,4095,4095,20479,61439,126975,262143,524287,1048575,2097151] mo ?_
          iterate 3 refine ChM.pu ?_
          iterate 7 refine ChM.gi ?_
          iterate 2 refine ChM.pu ?_
          iterate 6 refine ChM.gi ?_
          refine ChM.cg (C_dot_meanings m _) ?_
          iterate 2 refine ChM.gi ?_
          refine ChM.pu ?_
          refine ChM.tl ?_
          refine Ex.nil ?_
          refine X.cd rfl (fun hc9 => ?_) (fun hc9 => ?_)
          · have hF : sgF m l k s = 13 := by rw [sgF_dot (by omega) hc8, if_pos hc9]
            refine X.seq ?_
            refine X.region ?_
            refine Ex.pu ?_
            refine Ex.nil ?_
            refine X.ret ?_
            refine RetQ.ret (.one (.tmp rfl (LeV.eq ?_)))
            all_goals (rw [hk2, ckFrom_bad hs (by rw [hF]; decide), hF])
          have h0 : sgF m l k s = 0 := by rw [sgF_dot (by omega) hc8, if_neg (fun h => by omega)]
          refine X.skip ?_
          refine X.region ?_
          iterate 2 refine Ex.pu ?_
          refine Ex.nil ?_
          refine X.bk (k + 1) (hJ := by
            exact ⟨by omega, by rw [hk2, ckFrom_ok hs h0]⟩)
        · have hF : sgF m l k s = 8 := by unfold sgF; rw [if_neg (by omega), if_neg (by omega)]
          refine X.seq ?_
          refine X.region ?_
          refine Ex.pu ?_
          refine Ex.nil ?_
          refine X.ret ?_
          refine RetQ.ret (.one (.tmp rfl (LeV.eq ?_)))
          all_goals (rw [hk2, ckFrom_bad hs (by rw [hF]; decide), hF])
  · refine X.exit ?_
    refine X.seq ?_
    refine X.region ?_
    refine Ex.pu ?_
    refine Ex.nil ?_
    refine X.ret ?_
    refine RetQ.ret (.one (.tmp rfl (LeV.eq ?_)))
    all_goals (rw [hk2, List.drop_of_length_le (by omega)]; rfl)
end Go.Rse
