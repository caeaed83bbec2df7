/-
  Walks: the meanings of all dots.
-/
import Derived.Test.YteecbmgddacioaaDot3
namespace Go.Rse
open Go Go.Proofs
set_option linter.unusedVariables false
set_option linter.unusedSimpArgs false
attribute [local irreducible] Pur StepA StepM Ex X ExG Fn Imp LeV LeB FnO It YStep
theorem ckFrom_all {m : Mn} {l : List Sg} (h : ckFrom m l 0 l = 0) : ∀ k, k ≤ l.length → ckFrom m l k (l.drop k) = 0 ∧ ∀ i s, i < k → l[i]? = some s → sgF m l i s = 0
  | 0, _ => ⟨h, fun i s hi => absurd hi (Nat.not_lt_zero i)⟩
  | k + 1, hk => by
    obtain ⟨h1, h2⟩ := ckFrom_all h k (by omega)
    have hs : l[k]? = some l[k] := List.getElem?_eq_getElem (by omega)
    have h0 : sgF m l k l[k] = 0 := by
      by_cases h0 : sgF m l k l[k] = 0
      · exact h0
      · rw [ckFrom_bad hs h0] at h1; exact h1
    refine ⟨by rw [← ckFrom_ok hs h0]; exact h1, fun i s hi he => ?_⟩
    rcases Nat.lt_succ_iff_lt_or_eq.1 hi with h3 | h3
    · exact h2 i s h3 he
    · subst h3; rw [hs] at he; injection he with he; subst he; exact h0
theorem dotsK_mem {m : Mn} {l : List Sg} (h : ckFrom m l 0 l = 0) : ∀ k, k ≤ l.length → ∀ x, x ∈ dotsK l k → ∃ (j : Nat) (s p : Sg), x = ((j + 1 : Nat) : Int) ∧ l[j + 1]? = some s ∧ l[j]? = some p
  | 0, _, x, hx => by simp [dotsK] at hx
  | k + 1, hk, x, hx => by
    simp only [dotsK, List.mem_append] at hx
    rcases hx with hx | hx
    · exact dotsK_mem h k (by omega) x hx
    · have hs : l[k]? = some l[k] := List.getElem?_eq_getElem (by omega)
      simp only [hs] at hx
      split at hx
      · rename_i hK
        have h0 := (ckFrom_all h (k + 1) hk).2 k _ (by omega) hs
        simp at hx
        cases k with
        | zero => unfold sgF at h0; rw [if_neg (by omega), if_pos hK] at h0; simp at h0
        | succ j => exact ⟨j, _, _, hx, hs, List.getElem?_eq_getElem (by omega)⟩
      · simp at hx
/-- The sign before the place i. -/
def prevS (l : List Sg) (i : Int) : Option Sg := l[(i - 1).toNat]?
def mnAt (m : Mn) (l : List Sg) (i : Int) : List Int := match prevS l i with | some p => mngs m p | none => []
/-- The meanings of the dots of a valid run. -/
def mnsD (m : Mn) (l : List Sg) : List (List Int) := (dotsK l l.length).map (mnAt m l)
theorem mnsD_take {m : Mn} {l : List Sg} {L : List Int} {k : Nat} {x : Int} {p : Sg} (h : L[k]? = some x) (hp : l[(x - 1).toNat]? = some p) : (L.take k).map (mnAt m l) ++ [mngs m p] = (L.take (k + 1)).map (mnAt m l) := by
  have e : mnAt m l x = mngs m p := by unfold mnAt prevS; rw [hp]
  rw [List.take_add_one, h]
  simp [e]
theorem C_dot_Meanings (m : Mn) (l : List Sg) (hl : l.length ≤ 1000) : Fn Try.prog 32 [mnA m, sgsA l] (.tup [listsA (if ckD m l = 0 then mnsD m l else []), iv (ckD m l)]) := by
  refine Fn.go Try.func32 Try.ntmps32 (fun g w d => ?_)
  refine X.seq ?_
  refine X.region ?_
  refine Ex.ba ?_
  iterate 2 refine Ex.pu ?_
  refine Ex.nil ?_
  refine X.seq ?_
  refine X.seq ?_
  refine X.region ?_
  iterate 2 refine Ex.pu ?_
  refine Ex.ca (C_dot_Check m l hl) ?_
  refine Ex.pu ?_
  refine Ex.nil ?_
  refine X.seq ?_
  refine X.region ?_
  iterate 2 refine Ex.pu ?_
  refine Ex.nil ?_
  refine X.cd rfl (fun hc1 => ?_) (fun hc1 => ?_)
  · refine X.seq ?_
    refine X.region ?_
    iterate 3 refine Ex.pu ?_
    refine Ex.nil ?_
    refine X.ret ?_
    refine RetQ.imp (Imp.au (ts := [(4, listsA []), (5, iv (ckD m l))]) (hs := [])) ?_
    refine RetQ.ret (.many (by decide) (.cons (.tmp rfl (LeV.eq ?_)) (.cons (.tmp rfl (LeV.eq ?_)) .nil)))
    all_goals (first | (simp [hc1]; done) | (rw [if_pos hc1, ← hfin]; rfl) | (rw [if_neg hc1]) | (rw [hc1]; rfl) | rfl)
  refine X.skip ?_
  refine X.seq ?_
  refine X.region ?_
  refine Ex.pu ?_
  refine Ex.nil ?_
  refine X.seq ?_
  refine X.seq ?_
  refine X.imp (Imp.mkrow intsE 29 1 7 7 rfl rfl) ?_
  have hcf : ckFrom m l 0 l = 0 := by unfold ckD at hc1; split at hc1
                                      · exact hc1
                                      · exact absurd hc1 (by assumption)
  refine X.region ?_
  refine Ex.pu ?_
  refine Ex.ca (C_dot_dots l hl) ?_
  iterate 2 refine Ex.pu ?_
  refine Ex.nil ?_
  refine X.block ?_
  have hdl := dotsK_len l l.length
  refine X.lp (ι := Nat) (fun (k : Nat) => [(1, sgsA l), (2, .ptr 2 0 0 0), (7, .own 7), (17, intsA (dotsK l l.length)), (18, iv (dotsK l l.length).length), (19, iv (k : Int)), (5, iv 0)]) (fun (k : Nat) => [(2, .box (mnE m) 23), (7, .row intsE (((dotsK l l.length).take k).map (mnAt m l)) 29 1)]) (fun (k : Nat) => k ≤ (dotsK l l.length).length) (fun (k : Nat) => (dotsK l l.length).length - k) 0 (fun k hk => ?_)
  refine X.seq ?_
  refine X.region ?_
  refine Ex.pu ?_
  refine Ex.nil ?_
  refine X.seq ?_
  refine X.cd rfl (fun hc2 => ?_) (fun hc2 => ?_)
  · obtain ⟨x, hx⟩ : ∃ x, (dotsK l l.length)[k]? = some x := ⟨_, List.getElem?_eq_getElem (by omega)⟩
    have hx2 : (dotsK l l.length)[(k : Int).toNat]? = some x := by simpa using hx
    obtain ⟨j, s, p, hj1, hj2, hj3⟩ := dotsK_mem hcf l.length (Nat.le_refl _) x (List.mem_of_getElem? hx)
    have hjl : j + 1 < l.length := (List.getElem?_eq_some_iff.1 hj2).1
    have hp : l[(x - 1).toNat]? = some p := by rw [show (x - 1).toNat = j by omega]; exact hj3
    have hrow2 := mnsD_take (m := m) hx hp
    have htl : (((dotsK l l.length).take k).map (mnAt m l)).length ≤ 1000 := by simp; omega
    refine X.skip ?_
    refine X.seq ?_
    refine X.block ?_
    refine X.seq ?_
    refine X.region ?_
    iterate 3 refine Ex.pu ?_
    refine Ex.nil ?_
    refine X.dw [23,24,25,26,27,28,29,30,31] [0,0,0,0,8,28,60,126,254,511,1023] mo ?_
    iterate 7 refine ChM.pu ?_
    refine ChM.ca (C_dot_meanings m _) ?_
    refine ChM.step rfl rfl rfl (A_buildSlice (k := 31) (enc := intsE) (l := [_]) sl43 ty29 ze29 (by decide) rfl rfl rfl rfl (by decide) (by decide) (fun _ => rfl) rfl) rfl ?_
    refine ChM.tl ?_
    refine Ex.mo ?_
    refine Ex.pu ?_
    refine Ex.nil ?_
    refine X.region ?_
    iterate 2 refine Ex.pu ?_
    refine Ex.nil ?_
    refine X.bk (k + 1)
  · have hkl : k = (dotsK l l.length).length := by omega
    subst hkl
    have hfin : ((dotsK l l.length).take (dotsK l l.length).length).map (mnAt m l) = mnsD m l := by rw [List.take_length]; rfl
    refine X.exit ?_
    refine X.seq ?_
    refine X.region ?_
    iterate 3 refine Ex.pu ?_
    refine Ex.nil ?_
    refine X.ret ?_
    refine RetQ.imp (Imp.freeze (k := 7) rfl) ?_
    refine RetQ.ret (.many (by decide) (.cons (.tmp rfl (LeV.eq ?_)) (.cons (.tmp rfl (LeV.eq ?_)) .nil)))
    all_goals (first | (simp [hc1]; done) | (rw [if_pos hc1, ← hfin]; rfl) | (rw [if_neg hc1]) | (rw [hc1]; rfl) | rfl)
end Go.Rse
