/-
  Walks: how many lists of meanings.
-/
import Derived.Test.YteecbmgddacioaaDot4
import Derived.Test.YteecbmgddacioaaRse21
namespace Go.Rse
open Go Go.Proofs
set_option linter.unusedVariables false
set_option linter.unusedSimpArgs false
attribute [local irreducible] Pur StepA StepM Ex X ExG Fn Imp LeV LeB FnO It YStep
/-- The product of the lengths, as far as it is not greater than 64. -/
def cntF : Int → List (List Int) → Int
  | n, [] => n
  | n, x :: r => if n * x.length > 64 then n * x.length else cntF (n * x.length) r
theorem mngs_len (m : Mn) (s : Sg) : (mngs m s).length ≤ 2 := by
  unfold mngs
  split
  · exact Nat.le_trans (coll_len _ _) (by simp)
  · split
    · simp
    · split
      · exact coll_len _ _
      · have := coll_len posI [m.aV s.Value]; simp at this ⊢; omega
theorem mnsD_len2 {m : Mn} {l : List Sg} {x : List Int} (h : x ∈ mnsD m l) : x.length ≤ 2 := by
  obtain ⟨i, _, rfl⟩ := List.mem_map.1 h
  unfold mnAt
  split
  · exact mngs_len _ _
  · simp
theorem mnsD_len (m : Mn) (l : List Sg) : (mnsD m l).length ≤ l.length := by simpa [mnsD] using dotsK_len l l.length
theorem cntF_step {L : List (List Int)} {k : Nat} {x : List Int} {n : Int} (h : L[k]? = some x) : cntF n (L.drop k) = if n * x.length > 64 then n * x.length else cntF (n * x.length) (L.drop (k + 1)) := by
  have hk : k < L.length := (List.getElem?_eq_some_iff.1 h).1
  rw [List.drop_eq_getElem_cons hk]
  have : L[k] = x := (List.getElem?_eq_some_iff.1 h).2
  rw [this]; rfl
def cntV (m : Mn) (l : List Sg) : Int := if ckD m l = 0 then (if cntF 1 (mnsD m l) > 64 then 0 else cntF 1 (mnsD m l)) else 0
def cntE (m : Mn) (l : List Sg) : Int := if ckD m l = 0 then (if cntF 1 (mnsD m l) > 64 then 15 else 0) else ckD m l
theorem C_dot_Count (m : Mn) (l : List Sg) (hl : l.length ≤ 1000) : Fn Try.prog 38 [mnA m, sgsA l] (.tup [iv (cntV m l), iv (cntE m l)]) := by
  refine Fn.go Try.func38 Try.ntmps38 (fun g w d => ?_)
  refine X.seq ?_
  refine X.region ?_
  refine Ex.ba ?_
  iterate 2 refine Ex.pu ?_
  refine Ex.nil ?_
  refine X.scope ?_
  refine X.seq ?_
  refine X.region ?_
  iterate 2 refine Ex.pu ?_
  refine Ex.ca (C_dot_Meanings m l hl) ?_
  iterate 5 refine Ex.pu ?_
  refine Ex.nil ?_
  refine X.seq ?_
  refine X.seq ?_
  refine X.region ?_
  iterate 2 refine Ex.pu ?_
  refine Ex.nil ?_
  refine X.cd rfl (fun hc1 => ?_) (fun hc1 => ?_)
  · refine X.seq ?_
    refine X.region ?_
    iterate 3 refine Ex.pu ?_
    refine Ex.nil ?_
    refine X.ret ?_
    refine RetQ.ret (.many (by decide) (.cons (.tmp rfl (LeV.eq ?_)) (.cons (.tmp rfl (LeV.eq ?_)) .nil)))
    all_goals (first | (unfold cntV; rw [if_neg hc1]; done) | (unfold cntE; rw [if_neg hc1]; done))
  refine X.skip ?_
  refine X.seq ?_
  refine X.region ?_
  refine Ex.pu ?_
  refine Ex.nil ?_
  refine X.seq ?_
  refine X.label ?_
  refine X.seq ?_
  refine X.seq ?_
  have hms : (if ckD m l = 0 then mnsD m l else []) = mnsD m l := if_pos hc1
  have hml := mnsD_len m l
  rw [hms]
  refine X.region ?_
  iterate 3 refine Ex.pu ?_
  refine Ex.nil ?_
  refine X.block ?_
  refine X.lp (ι := Nat × Int) (fun (p : Nat × Int) => [(8, iv p.2), (20, listsA (mnsD m l)), (21, iv (mnsD m l).length), (22, iv (p.1 : Int))]) (fun (p : Nat × Int) => []) (fun (p : Nat × Int) => p.1 ≤ (mnsD m l).length ∧ 0 ≤ p.2 ∧ p.2 ≤ 64 ∧ cntF 1 (mnsD m l) = cntF p.2 ((mnsD m l).drop p.1)) (fun (p : Nat × Int) => (mnsD m l).length - p.1) (0, 1) (fun p hk => ?_) (hJ := by
    exact ⟨by simp, by simp, by simp, rfl⟩)
  obtain ⟨k, n⟩ := p
  obtain ⟨hk1, hn0, hn1, hk2⟩ := hk
  dsimp only at *
  refine X.seq ?_
  refine X.region ?_
  refine Ex.pu ?_
  refine Ex.nil ?_
  refine X.seq ?_
  refine X.cd rfl (fun hc2 => ?_) (fun hc2 => ?_)
  · obtain ⟨x, hx⟩ : ∃ x, (mnsD m l)[k]? = some x := ⟨_, List.getElem?_eq_getElem (by omega)⟩
    have hx2 : (mnsD m l)[(k : Int).toNat]? = some x := by simpa using hx
    have hxl := mnsD_len2 (List.mem_of_getElem? hx)
    have hb0 : 0 ≤ n * (x.length : Int) := Int.mul_nonneg hn0 (by omega)
    have hb1 : n * (x.length : Int) ≤ 64 * 2 := Int.mul_le_mul hn1 (by omega) (by omega) (by omega)
    refine X.skip ?_
    refine X.seq ?_
    refine X.block ?_
    refine X.seq ?_
    refine X.region ?_
    iterate 3 refine Ex.pu ?_
    refine Ex.nil ?_
    refine X.seq ?_
    refine X.region ?_
    iterate 5 refine Ex.pu ?_
    refine Ex.nil ?_
    refine X.seq ?_
    refine X.region ?_
    iterate 2 refine Ex.pu ?_
    refine Ex.nil ?_
    refine X.cd rfl (fun hc3 => ?_) (fun hc3 => ?_)
    · have hC : cntF 1 (mnsD m l) = n * (x.length : Int) := by rw [hk2, cntF_step hx, if_pos (by omega)]
      refine X.exit ?_
      refine X.seq ?_
      refine X.seq ?_
      refine X.region ?_
      iterate 2 refine Ex.pu ?_
      refine Ex.nil ?_
      refine X.cd rfl (fun hc4 => ?_) (fun hc4 => ?_)
      · refine X.seq ?_
        refine X.region ?_
        iterate 2 refine Ex.pu ?_
        refine Ex.nil ?_
        refine X.ret ?_
        refine RetQ.ret (.many (by decide) (.cons (.tmp rfl (LeV.eq ?_)) (.cons (.tmp rfl (LeV.eq ?_)) .nil)))
        all_goals (first | (unfold cntV; rw [if_pos hc1, hC, if_pos (by omega)]; done) | (unfold cntE; rw [if_pos hc1, hC, if_pos (by omega)]; done))
      omega
    refine X.skip ?_
    refine X.region ?_
    iterate 2 refine Ex.pu ?_
    refine Ex.nil ?_
    refine X.bk ((k + 1, n * (x.length : Int))) (hJ := by
      exact ⟨by omega, by omega, by omega, by rw [hk2, cntF_step hx, if_neg (by omega)]⟩) (hm := by dsimp only; omega)
  · have hC : cntF 1 (mnsD m l) = n := by rw [hk2, List.drop_of_length_le (by omega)]; rfl
    refine X.exit ?_
    refine X.seq ?_
    refine X.seq ?_
    refine X.region ?_
    iterate 2 refine Ex.pu ?_
    refine Ex.nil ?_
    refine X.cd rfl (fun hc5 => ?_) (fun hc5 => ?_)
    · refine X.seq ?_
      refine X.region ?_
      iterate 2 refine Ex.pu ?_
      refine Ex.nil ?_
      refine X.ret ?_
      refine RetQ.ret (.many (by decide) (.cons (.tmp rfl (LeV.eq ?_)) (.cons (.tmp rfl (LeV.eq ?_)) .nil)))
      all_goals (first | (unfold cntV; rw [if_pos hc1, hC, if_pos (by omega)]; done) | (unfold cntE; rw [if_pos hc1, hC, if_pos (by omega)]; done))
    refine X.skip ?_
    refine X.seq ?_
    refine X.region ?_
    iterate 3 refine Ex.pu ?_
    refine Ex.nil ?_
    refine X.ret ?_
    refine RetQ.ret (.many (by decide) (.cons (.tmp rfl (LeV.eq ?_)) (.cons (.tmp rfl (LeV.eq ?_)) .nil)))
    all_goals (first | (unfold cntV; rw [if_pos hc1, hC, if_neg (by omega)]; done) | (unfold cntE; rw [if_pos hc1, hC, if_neg (by omega)]; done))
end Go.Rse
