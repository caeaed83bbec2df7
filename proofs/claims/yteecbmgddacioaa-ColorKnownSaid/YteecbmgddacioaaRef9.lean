/-
  Walks: the reference for dots.
-/
import Derived.Test.YteecbmgddacioaaRef9a
import Derived.Test.YteecbmgddacioaaRse21
namespace Go.Rse
open Go Go.Proofs
set_option linter.unusedVariables false
set_option linter.unusedSimpArgs false
attribute [local irreducible] Pur StepA StepM Ex X ExG Fn Imp LeV LeB FnO It YStep
theorem C_tactusref05_Above' (m : Mn) (v : Int) : Fn Try.prog 61 [mnA m, iv v] (.tup [iv (m.aV v), iv (ckMV m v)]) := C_tactusref05_Above m v
def lastV (l : List Sg) (k : Nat) : Int := match k with
  | 0 => -1
  | j + 1 => match l[j]? with | some p => if p.Kind = 3 then -1 else (j : Int) | none => -1
theorem ownV_step {L : List Int} {k : Nat} {x v : Int} (h : L[k]? = some x) : ownV (L.drop k) v = if x = 0 ∨ x = v then x else ownV (L.drop (k + 1)) v := by
  have hk : k < L.length := (List.getElem?_eq_some_iff.1 h).1
  rw [List.drop_eq_getElem_cons hk]
  have : L[k] = x := (List.getElem?_eq_some_iff.1 h).2
  rw [this]; rfl
theorem mngR_len (m : Mn) (s : Sg) : 1 ≤ (mngR m s).length ∧ (mngR m s).length ≤ 2 := by
  unfold mngR
  repeat' split
  all_goals simp
theorem dotsK_yes {l : List Sg} {k : Nat} {s : Sg} {α : Type} (f : Int → α) (h : l[k]? = some s) (h3 : s.Kind = 3) : (dotsK l k).map f ++ [f k] = (dotsK l (k + 1)).map f := by
  simp [dotsK, h, h3]
theorem dotsK_no {l : List Sg} {k : Nat} {s : Sg} {α : Type} (f : Int → α) (h : l[k]? = some s) (h3 : ¬ s.Kind = 3) : (dotsK l k).map f = (dotsK l (k + 1)).map f := by
  simp [dotsK, h, h3]
theorem prevR {m : Mn} {l : List Sg} (h : ckR m l = 0) {k : Nat} {s : Sg} (hs : l[k]? = some s) (h3 : s.Kind = 3) : ∃ p : Sg, 0 < k ∧ l[((k : Int) - 1).toNat]? = some p ∧ prevS l k = some p ∧ p.Value ≤ 8 := by
  rw [← ckD_R] at h
  cases k with
  | zero =>
    have := (ckFrom_all (ckD_zero h).2 1 (List.getElem?_eq_some_iff.1 hs).1).2 0 s (by omega) hs
    unfold sgF at this
    rw [if_neg (by omega), if_pos h3] at this
    simp at this
  | succ j =>
    have hlt := (List.getElem?_eq_some_iff.1 hs).1
    obtain ⟨p, hj⟩ : ∃ p, l[j]? = some p := ⟨_, List.getElem?_eq_getElem (by omega)⟩
    have e : (((j + 1 : Nat) : Int) - 1).toNat = j := by omega
    exact ⟨p, by omega, by rw [e]; exact hj, by unfold prevS; rw [e]; exact hj, (prevOk h hs h3 hj).2.2.2.1⟩
theorem last_sg {m : Mn} {l : List Sg} {k : Nat} {s : Sg} (hs : l[k]? = some s) (h3 : s.Kind = 3) :
    (lastV l k < 0 ∧ sgR m l k s = 13) ∨ (∃ p : Sg, 0 ≤ lastV l k ∧ l[(lastV l k).toNat]? = some p ∧ sgR m l k s = if p.Kind = 2 ∧ m.aV p.Value = 0 then 13 else 0) := by
  cases k with
  | zero => exact .inl ⟨by simp [lastV], by unfold sgR; rw [if_neg (by omega), if_pos h3]⟩
  | succ j =>
    have hlt := (List.getElem?_eq_some_iff.1 hs).1
    obtain ⟨p, hp⟩ : ∃ p, l[j]? = some p := ⟨_, List.getElem?_eq_getElem (by omega)⟩
    by_cases hk : p.Kind = 3
    · refine .inl ⟨by simp [lastV, hp, hk], ?_⟩
      unfold sgR; rw [if_neg (by omega), if_pos h3]; simp only [hp]; rw [if_pos (.inl hk)]
    · refine .inr ⟨p, by simp [lastV, hp, hk], by simp [lastV, hp, hk], ?_⟩
      unfold sgR; rw [if_neg (by omega), if_pos h3]; simp only [hp]; simp [hk]
theorem lastV_eq {l : List Sg} {k : Nat} (hk : k < l.length) : lastV l k = if 0 < (k : Int) ∧ ¬ (l.getD ((k : Int) - 1).toNat default).Kind = 3 then (k : Int) - 1 else -1 := by
  cases k with
  | zero => rfl
  | succ j =>
    have e : (((j + 1 : Nat) : Int) - 1).toNat = j := by omega
    have hp : l[j]? = some (l.getD j default) := by rw [List.getD_eq_getElem?_getD, List.getElem?_eq_getElem (by omega)]; rfl
    rw [e]; unfold lastV; simp only [hp]
    generalize l.getD j default = p
    by_cases h : p.Kind = 3
    · rw [if_pos h, if_neg (by omega)]
    · rw [if_neg h, if_pos ⟨by omega, h⟩]; omega
theorem nextV_eq {l : List Sg} {k : Nat} {v : Int} (hk : k < l.length) (hv : v ≤ 8) : ((k : Int) + 1 = (l.length : Int) ∨ v < (l.getD ((k : Int) + 1).toNat default).Value) ↔ nextV l k > v := by
  unfold nextV
  rcases Nat.lt_or_ge (k + 1) l.length with h | h
  · have hp : l[((k : Int) + 1).toNat]? = some (l.getD ((k : Int) + 1).toNat default) := by rw [List.getD_eq_getElem?_getD, List.getElem?_eq_getElem (by omega)]; rfl
    simp only [hp]
    generalize l.getD ((k : Int) + 1).toNat default = p
    constructor
    · intro h; omega
    · intro h; exact .inr (by omega)
  · rw [List.getElem?_eq_none (by omega)]
    constructor
    · intro _; show (9 : Int) > v; omega
    · intro _; exact .inl (by omega)
theorem C_tactusref09_last (l : List Sg) (k : Nat) (hk : k < l.length) (hl : l.length ≤ 4000000000) : Fn Try.prog 124 [sgsA l, iv (k : Int)] (iv (lastV l k)) := by
  refine Fn.go Try.func124 Try.ntmps124 (fun g w d => ?_)
  refine X.seq ?_
  refine X.region ?_
  refine Ex.pu ?_
  refine Ex.nil ?_
  refine X.seq ?_
  refine X.seq ?_
  refine X.region ?_
  iterate 2 refine Ex.pu ?_
  refine ExF.at 2 ?_
  refine ExF.pu ?_
  iterate 7 refine ExF.gi ?_
  refine ExF.done ?_
  refine Ex.pu ?_
  refine Ex.nil ?_
  refine X.cd rfl (fun hc1 => ?_) (fun hc1 => ?_)
  · have HL := hc1
    refine X.seq ?_
    refine X.region ?_
    iterate 3 refine Ex.pu ?_
    refine Ex.nil ?_
    refine X.ret ?_
    refine RetQ.ret (.one (.tmp rfl (LeV.eq ?_)))
    all_goals (congr 1; rw [lastV_eq hk, if_pos HL])
  refine X.skip ?_
  refine X.seq ?_
  refine X.region ?_
  refine Ex.pu ?_
  refine Ex.nil ?_
  refine X.ret ?_
  refine RetQ.ret (.one (.tmp rfl (LeV.eq ?_)))
  all_goals (congr 1; rw [lastV_eq hk, if_neg (by omega)])
theorem C_tactusref09_own (l : List Int) (v : Int) (hl : l.length ≤ 4000000000) : Fn Try.prog 121 [intsA l, iv v] (iv (ownV l v)) := by
  refine Fn.go Try.func121 Try.ntmps121 (fun g w d => ?_)
  refine X.seq ?_
  refine X.region ?_
  refine Ex.pu ?_
  refine Ex.nil ?_
  refine X.seq ?_
  refine X.seq ?_
  refine X.region ?_
  refine Ex.pu ?_
  refine Ex.nil ?_
  refine X.block ?_
  refine X.lp (ι := Nat) (fun (k : Nat) => [(0, intsA l), (1, iv v), (5, iv (k : Int))]) (fun (k : Nat) => []) (fun (k : Nat) => k ≤ l.length ∧ ownV l v = ownV (l.drop k) v) (fun (k : Nat) => l.length - k) 0 (fun k hk => ?_) (hJ := by
    exact ⟨by omega, rfl⟩)
  obtain ⟨hk1, hk2⟩ := hk
  refine X.seq ?_
  refine X.seq ?_
  refine X.region ?_
  iterate 4 refine Ex.pu ?_
  refine Ex.nil ?_
  refine X.cd rfl (fun hc1 => ?_) (fun hc1 => ?_)
  · obtain ⟨x, hx⟩ : ∃ x, l[k]? = some x := ⟨_, List.getElem?_eq_getElem (by omega)⟩
    have hx2 : l[(k : Int).toNat]? = some x := by simpa using hx
    refine X.skip ?_
    refine X.seq ?_
    refine X.block ?_
    refine X.seq ?_
    refine X.region ?_
    iterate 5 refine Ex.pu ?_
    refine ExF.at 5 ?_
    refine ExF.pu ?_
    iterate 6 refine ExF.gi ?_
    refine ExF.done ?_
    refine Ex.pu ?_
    refine Ex.nil ?_
    refine X.cd rfl (fun hc2 => ?_) (fun hc2 => ?_)
    · refine X.seq ?_
      refine X.region ?_
      iterate 5 refine Ex.pu ?_
      refine Ex.nil ?_
      refine X.ret ?_
      refine RetQ.ret (.one (.tmp rfl (LeV.eq ?_)))
      all_goals (congr 1; rw [hk2, ownV_step hx, if_pos (by simpa using hc2)])
    refine X.skip ?_
    refine X.region ?_
    iterate 3 refine Ex.pu ?_
    refine Ex.nil ?_
    refine X.bk (k + 1) (hJ := by
      exact ⟨by omega, by rw [hk2, ownV_step hx, if_neg (by simpa using hc2)]⟩)
  · refine X.exit ?_
    refine X.seq ?_
    refine X.region ?_
    refine Ex.pu ?_
    refine Ex.nil ?_
    refine X.ret ?_
    refine RetQ.ret (.one (.tmp rfl (LeV.eq ?_)))
    all_goals (congr 1; rw [hk2, List.drop_of_length_le (by omega)]; rfl)
set_option maxHeartbeats 2000000 in
theorem C_tactusref09_Check (m : Mn) (l : List Sg) (hl : l.length ≤ 1000) : Fn Try.prog 41 [mnA m, sgsA l] (iv (ckR m l)) := by
  refine Fn.go Try.func41 Try.ntmps41 (fun g w d => ?_)
  refine X.seq ?_
  refine X.region ?_
  refine Ex.ba ?_
  refine Ex.pu ?_
  refine Ex.nil ?_
  refine X.seq ?_
  refine X.region ?_
  refine Ex.pu ?_
  refine Ex.ca (C_tactusref05_Check m) ?_
  refine Ex.pu ?_
  refine Ex.nil ?_
  refine X.seq ?_
  refine X.seq ?_
  refine X.region ?_
  iterate 2 refine Ex.pu ?_
  refine Ex.nil ?_
  refine X.cd rfl (fun hc1 => ?_) (fun hc1 => ?_)
  · refine X.seq ?_
    refine X.region ?_
    iterate 2 refine Ex.pu ?_
    refine Ex.nil ?_
    refine X.ret ?_
    refine RetQ.ret (.one (.tmp rfl (LeV.eq ?_)))
    all_goals (first | rfl | (unfold ckR; rw [if_neg hc1]))
  refine X.skip ?_
  refine X.seq ?_
  refine X.seq ?_
  refine X.region ?_
  refine Ex.pu ?_
  refine Ex.nil ?_
  refine X.block ?_
  refine X.lp (ι := Nat) (fun (k : Nat) => [(1, sgsA l), (2, .ptr 2 0 0 0), (6, iv (k : Int))]) (fun (k : Nat) => [(2, .box (mnE m) 23)]) (fun (k : Nat) => k ≤ l.length ∧ ckR m l = ckFromR m l k (l.drop k)) (fun (k : Nat) => l.length - k) 0 (fun k hk => ?_) (hJ := by
    exact ⟨by omega, by unfold ckR; rw [if_pos hc1]; rfl⟩)
  obtain ⟨hk1, hk2⟩ := hk
  refine X.seq ?_
  refine X.seq ?_
  refine X.region ?_
  iterate 4 refine Ex.pu ?_
  refine Ex.nil ?_
  refine X.cd rfl (fun hc2 => ?_) (fun hc2 => ?_)
  · obtain ⟨s, hs⟩ : ∃ s, l[k]? = some s := ⟨_, List.getElem?_eq_getElem (by omega)⟩
    have hs2 : l[(k : Int).toNat]? = some s := by simpa using hs
    refine X.skip ?_
    refine X.seq ?_
    refine X.block ?_
    refine X.seq ?_
    refine X.region ?_
    iterate 5 refine Ex.pu ?_
    refine Ex.nil ?_
    refine X.block ?_
    refine X.seq ?_
    refine X.seq ?_
    refine X.region ?_
    iterate 2 refine Ex.pu ?_
    refine Ex.nil ?_
    refine X.cd rfl (fun hc3 => ?_) (fun hc3 => ?_)
    · refine X.skip ?_
      refine X.cd rfl (fun hc4 => ?_) (fun hc4 => ?_)
      · refine X.seq ?_
        refine X.region ?_
        iterate 6 refine Ex.pu ?_
        refine ExF.at 6 ?_
        refine ExF.pu ?_
        iterate 6 refine ExF.gi ?_
        refine ExF.done ?_
        refine Ex.pu ?_
        refine Ex.nil ?_
        refine X.cd rfl (fun hc5 => ?_) (fun hc5 => ?_)
        · have hF : sgR m l k s = 2 := by unfold sgR; rw [if_pos (.inl hc3), if_neg (by omega)]
          refine X.seq ?_
          refine X.region ?_
          refine Ex.pu ?_
          refine Ex.nil ?_
          refine X.ret ?_
          refine RetQ.ret (.one (.tmp rfl (LeV.eq ?_)))
          all_goals (rw [hk2, ckFromR_bad hs (by rw [hF]; decide), hF])
        have h0 : sgR m l k s = 0 := by unfold sgR; rw [if_pos (.inl hc3), if_pos (by omega)]
        refine X.skip ?_
        refine X.region ?_
        iterate 3 refine Ex.pu ?_
        refine Ex.nil ?_
        refine X.bk (k + 1) (hJ := by
          exact ⟨by omega, by rw [hk2, ckFromR_ok hs h0]⟩)
      · exact absurd hc3 hc4
    · refine X.region ?_
      iterate 2 refine Ex.pu ?_
      refine Ex.nil ?_
      refine X.cd rfl (fun hc6 => ?_) (fun hc6 => ?_)
      · refine X.seq ?_
        refine X.region ?_
        iterate 6 refine Ex.pu ?_
        refine ExF.at 6 ?_
        refine ExF.pu ?_
        iterate 6 refine ExF.gi ?_
        refine ExF.done ?_
        refine Ex.pu ?_
        refine Ex.nil ?_
        refine X.cd rfl (fun hc7 => ?_) (fun hc7 => ?_)
        · have hF : sgR m l k s = 2 := by unfold sgR; rw [if_pos (.inr hc6), if_neg (by omega)]
          refine X.seq ?_
          refine X.region ?_
          refine Ex.pu ?_
          refine Ex.nil ?_
          refine X.ret ?_
          refine RetQ.ret (.one (.tmp rfl (LeV.eq ?_)))
          all_goals (rw [hk2, ckFromR_bad hs (by rw [hF]; decide), hF])
        have h0 : sgR m l k s = 0 := by unfold sgR; rw [if_pos (.inr hc6), if_pos (by omega)]
        refine X.skip ?_
        refine X.region ?_
        iterate 3 refine Ex.pu ?_
        refine Ex.nil ?_
        refine X.bk (k + 1) (hJ := by
          exact ⟨by omega, by rw [hk2, ckFromR_ok hs h0]⟩)
      · refine X.seq ?_
        refine X.region ?_
        iterate 2 refine Ex.pu ?_
        refine Ex.nil ?_
        refine X.cd rfl (fun hc8 => ?_) (fun hc8 => ?_)
        · have hcs := last_sg (m := m) hs hc8
          refine X.seq ?_
          refine X.region ?_
          iterate 2 refine Ex.pu ?_
          refine Ex.ca (C_tactusref09_last l k (by omega) (by omega)) ?_
          refine Ex.pu ?_
          refine Ex.nil ?_
          refine X.seq ?_
          refine X.seq ?_
          refine X.region ?_
          iterate 2 refine Ex.pu ?_
          refine Ex.nil ?_
          refine X.cd rfl (fun hc9 => ?_) (fun hc9 => ?_)
          · have hF : sgR m l k s = 13 := by
              rcases hcs with h | ⟨p, h, _⟩
              · exact h.2
              · omega
            refine X.seq ?_
            refine X.region ?_
            refine Ex.pu ?_
            refine Ex.nil ?_
            refine X.ret ?_
            refine RetQ.ret (.one (.tmp rfl (LeV.eq ?_)))
            all_goals (rw [hk2, ckFromR_bad hs (by rw [hF]; decide), hF])
          obtain ⟨p, hl0, hp, hsg⟩ : ∃ p : Sg, 0 ≤ lastV l k ∧ l[(lastV l k).toNat]? = some p ∧ sgR m l k s = if p.Kind = 2 ∧ m.aV p.Value = 0 then 13 else 0 := by
            rcases hcs with h | h
            · omega
            · exact h
          refine X.skip ?_
          refine X.seq ?_
          refine X.dw [8,9,50,51,52,53,54,55,56,57,58,59] [0,0,0,6,14,30,63,127,255,255,511,2047] mo ?_
          iterate 6 refine ChM.pu ?_
          refine ChM.ca (C_tactusref05_Above' m _) ?_
          iterate 5 refine ChM.pu ?_
          refine ChM.tl ?_
          refine Ex.nil ?_
          refine X.seq ?_
          refine X.region ?_
          iterate 6 refine Ex.pu ?_
          refine ExF.at 6 ?_
          refine ExF.pu ?_
          iterate 2 refine ExF.gi ?_
          refine ExF.done ?_
          refine Ex.pu ?_
          refine Ex.nil ?_
          refine X.cd rfl (fun hc10 => ?_) (fun hc10 => ?_)
          · have hF : sgR m l k s = 13 := by rw [hsg, if_pos hc10]
            refine X.seq ?_
            refine X.region ?_
            refine Ex.pu ?_
            refine Ex.nil ?_
            refine X.ret ?_
            refine RetQ.ret (.one (.tmp rfl (LeV.eq ?_)))
            all_goals (rw [hk2, ckFromR_bad hs (by rw [hF]; decide), hF])
          have h0 : sgR m l k s = 0 := by rw [hsg, if_neg (by first | exact hc10 | (intro h; simp_all) | omega)]
          refine X.skip ?_
          refine X.region ?_
          iterate 3 refine Ex.pu ?_
          refine Ex.nil ?_
          refine X.bk (k + 1) (hJ := by
            exact ⟨by omega, by rw [hk2, ckFromR_ok hs h0]⟩)
        · have hF : sgR m l k s = 8 := by unfold sgR; rw [if_neg (by omega), if_neg (by omega)]
          refine X.seq ?_
          refine X.region ?_
          refine Ex.pu ?_
          refine Ex.nil ?_
          refine X.ret ?_
          refine RetQ.ret (.one (.tmp rfl (LeV.eq ?_)))
          all_goals (rw [hk2, ckFromR_bad hs (by rw [hF]; decide), hF])
  · refine X.exit ?_
    refine X.seq ?_
    refine X.region ?_
    refine Ex.pu ?_
    refine Ex.nil ?_
    refine X.ret ?_
    refine RetQ.ret (.one (.tmp rfl (LeV.eq ?_)))
    all_goals (rw [hk2, List.drop_of_length_le (by omega)]; rfl)
theorem C_tactusref09_meanings (m : Mn) (s : Sg) : Fn Try.prog 117 [mnA m, sgA s] (intsA (mngR m s)) := by
  refine Fn.go Try.func117 Try.ntmps117 (fun g w d => ?_)
  refine X.seq ?_
  refine X.region ?_
  refine Ex.ba ?_
  refine Ex.ba ?_
  refine Ex.pu ?_
  refine Ex.nil ?_
  refine X.seq ?_
  refine X.region ?_
  iterate 3 refine Ex.pu ?_
  refine Ex.ca (C_tactusref05_Above' m s.Value) ?_
  iterate 5 refine Ex.pu ?_
  refine Ex.nil ?_
  refine X.seq ?_
  refine X.block ?_
  refine X.seq ?_
  refine X.region ?_
  iterate 4 refine Ex.pu ?_
  refine Ex.nil ?_
  refine X.cd rfl (fun hc1 => ?_) (fun hc1 => ?_)
  · refine X.seq ?_
    refine X.region ?_
    refine Ex.pu ?_
    refine Ex.bs intE [_] ?_
    refine Ex.pu ?_
    refine Ex.nil ?_
    refine X.ret ?_
    refine RetQ.imp (Imp.freeze (k := 19) rfl) ?_
    refine RetQ.ret (.one (.tmp rfl (LeV.eq ?_)))
    all_goals (first | (simp [mngR, *]; rfl) | (have h0 : ¬ m.aV s.Value = 0 := (by omega); simp [mngR, *]; rfl))
  refine X.seq ?_
  refine X.region ?_
  iterate 3 refine Ex.pu ?_
  refine Ex.nil ?_
  refine X.cd rfl (fun hc2 => ?_) (fun hc2 => ?_)
  · refine X.seq ?_
    refine X.region ?_
    refine Ex.bs intE [_] ?_
    refine Ex.pu ?_
    refine Ex.nil ?_
    refine X.ret ?_
    refine RetQ.imp (Imp.freeze (k := 23) rfl) ?_
    refine RetQ.ret (.one (.tmp rfl (LeV.eq ?_)))
    all_goals (first | (simp [mngR, *]; rfl) | (have h0 : ¬ m.aV s.Value = 0 := (by omega); simp [mngR, *]; rfl))
  refine X.seq ?_
  refine X.region ?_
  iterate 3 refine Ex.pu ?_
  refine Ex.ca (C_tactusref05_P m s.Value) ?_
  refine Ex.pu ?_
  refine ExF.at 5 ?_
  refine ExF.pu ?_
  iterate 2 refine ExF.gi ?_
  refine ExF.done ?_
  iterate 2 refine Ex.pu ?_
  refine Ex.nil ?_
  refine X.cd rfl (fun hc3 => ?_) (fun hc3 => ?_)
  · refine X.seq ?_
    refine X.region ?_
    refine Ex.bs intE [_] ?_
    refine Ex.pu ?_
    refine Ex.nil ?_
    refine X.ret ?_
    refine RetQ.imp (Imp.freeze (k := 34) rfl) ?_
    refine RetQ.ret (.one (.tmp rfl (LeV.eq ?_)))
    all_goals (first | (simp [mngR, *]; rfl) | (have h0 : ¬ m.aV s.Value = 0 := (by omega); simp [mngR, *]; rfl))
  refine X.seq ?_
  refine X.region ?_
  iterate 3 refine Ex.pu ?_
  refine Ex.ca (C_tactusref05_P m s.Value) ?_
  iterate 2 refine Ex.pu ?_
  refine Ex.nil ?_
  refine X.cd rfl (fun hc4 => ?_) (fun hc4 => ?_)
  · refine X.seq ?_
    refine X.region ?_
    refine Ex.pu ?_
    refine Ex.bs intE [_, _] ?_
    refine Ex.pu ?_
    refine Ex.nil ?_
    refine X.ret ?_
    refine RetQ.imp (Imp.freeze (k := 42) rfl) ?_
    refine RetQ.ret (.one (.tmp rfl (LeV.eq ?_)))
    all_goals (first | (simp [mngR, *]; rfl) | (have h0 : ¬ m.aV s.Value = 0 := (by omega); simp [mngR, *]; rfl))
  refine X.seq ?_
  refine X.region ?_
  iterate 3 refine Ex.pu ?_
  refine Ex.nil ?_
  refine X.cd rfl (fun hc5 => ?_) (fun hc5 => ?_)
  · refine X.seq ?_
    refine X.region ?_
    iterate 2 refine Ex.pu ?_
    refine Ex.bs intE [_] ?_
    refine Ex.pu ?_
    refine Ex.nil ?_
    refine X.ret ?_
    refine RetQ.imp (Imp.freeze (k := 48) rfl) ?_
    refine RetQ.ret (.one (.tmp rfl (LeV.eq ?_)))
    all_goals (first | (simp [mngR, *]; rfl) | (have h0 : ¬ m.aV s.Value = 0 := (by omega); simp [mngR, *]; rfl))
  refine X.skip ?_
  refine X.seq ?_
  refine X.region ?_
  iterate 3 refine Ex.pu ?_
  refine Ex.bs intE [_, _] ?_
  refine Ex.pu ?_
  refine Ex.nil ?_
  refine X.ret ?_
  refine RetQ.imp (Imp.freeze (k := 52) rfl) ?_
  refine RetQ.ret (.one (.tmp rfl (LeV.eq ?_)))
  all_goals (first | (simp [mngR, *]; rfl) | (have h0 : ¬ m.aV s.Value = 0 := (by omega); simp [mngR, *]; rfl))
theorem C_tactusref09_Meanings (m : Mn) (l : List Sg) (hl : l.length ≤ 1000) : Fn Try.prog 33 [mnA m, sgsA l] (.tup [listsA (if ckR m l = 0 then mnsR m l else []), iv (ckR m l)]) := by
  refine Fn.go Try.func33 Try.ntmps33 (fun g w d => ?_)
  refine X.seq ?_
  refine X.region ?_
  refine Ex.ba ?_
  iterate 2 refine Ex.pu ?_
  refine Ex.nil ?_
  refine X.seq ?_
  refine X.region ?_
  iterate 2 refine Ex.pu ?_
  refine Ex.ca (C_tactusref09_Check m l hl) ?_
  refine Ex.pu ?_
  refine Ex.nil ?_
  refine X.seq ?_
  refine X.seq ?_
  refine X.region ?_
  iterate 2 refine Ex.pu ?_
  refine Ex.nil ?_
  refine X.cd rfl (fun hc1 => ?_) (fun hc1 => ?_)
  · refine X.seq ?_
    refine X.region ?_
    iterate 3 refine Ex.pu ?_
    refine Ex.nil ?_
    refine X.ret ?_
    refine RetQ.imp (Imp.au (ts := [(4, listsA []), (5, iv (ckR m l))]) (hs := [])) ?_
    refine RetQ.ret (.many (by decide) (.cons (.tmp rfl (LeV.eq ?_)) (.cons (.tmp rfl (LeV.eq ?_)) .nil)))
    all_goals (first | (simp [hc1]; done) | (rw [if_pos hc1, ← hfin]; rfl) | (rw [if_neg hc1]) | (rw [hc1]; rfl) | rfl)
  refine X.skip ?_
  refine X.seq ?_
  refine X.region ?_
  refine Ex.pu ?_
  refine Ex.nil ?_
  refine X.seq ?_
  refine X.seq ?_
  refine X.imp (Imp.mkrow intsE 29 1 7 7 rfl rfl) ?_
  refine X.region ?_
  refine Ex.pu ?_
  refine Ex.nil ?_
  refine X.block ?_
  refine X.lp (ι := Nat) (fun (k : Nat) => [(1, sgsA l), (2, .ptr 2 0 0 0), (7, .own 7), (8, iv (k : Int))]) (fun (k : Nat) => [(2, .box (mnE m) 23), (7, .row intsE ((dotsK l k).map (mnAtR m l)) 29 1)]) (fun (k : Nat) => k ≤ l.length) (fun (k : Nat) => l.length - k) 0 (fun k hk => ?_)
  refine X.seq ?_
  refine X.seq ?_
  refine X.region ?_
  iterate 4 refine Ex.pu ?_
  refine Ex.nil ?_
  refine X.cd rfl (fun hc2 => ?_) (fun hc2 => ?_)
  · obtain ⟨s, hs⟩ : ∃ s, l[k]? = some s := ⟨_, List.getElem?_eq_getElem (by omega)⟩
    have hs2 : l[(k : Int).toNat]? = some s := by simpa using hs
    have hdl := dotsK_len l k
    have htl : ((dotsK l k).map (mnAtR m l)).length ≤ 1000 := by simp; omega
    refine X.skip ?_
    refine X.seq ?_
    refine X.block ?_
    refine X.seq ?_
    refine X.region ?_
    iterate 6 refine Ex.pu ?_
    refine Ex.nil ?_
    refine X.cd rfl (fun hc3 => ?_) (fun hc3 => ?_)
    · obtain ⟨p, hk0, hp, hpS, hp8⟩ := prevR hc1 hs hc3
      have hrow2 := dotsK_yes (mnAtR m l) hs hc3
      rw [show mnAtR m l k = mngR m p by unfold mnAtR; rw [hpS]] at hrow2
      refine X.seq ?_
      refine X.dw [9,28,29,30,31,32,33,34] [0,0,0,4,14,30,63,127] mo ?_
      iterate 6 refine ChM.pu ?_
      refine ChM.ca (C_tactusref09_meanings m _) ?_
      refine ChM.pu ?_
      refine ChM.tl ?_
      refine Ex.nil ?_
      refine X.region ?_
      iterate 2 refine Ex.pu ?_
      refine Ex.bs intsE [_] ?_
      refine Ex.mo ?_
      refine Ex.pu ?_
      refine Ex.nil ?_
      refine X.region ?_
      iterate 3 refine Ex.pu ?_
      refine Ex.nil ?_
      refine X.bk (k + 1)
    · have hrow2 := dotsK_no (mnAtR m l) hs hc3
      refine X.skip ?_
      refine X.region ?_
      iterate 3 refine Ex.pu ?_
      refine Ex.nil ?_
      refine X.bk (k + 1)
  · have hkl : k = l.length := by omega
    subst hkl
    have hfin : (dotsK l l.length).map (mnAtR m l) = mnsR m l := rfl
    refine X.exit ?_
    refine X.seq ?_
    refine X.region ?_
    iterate 3 refine Ex.pu ?_
    refine Ex.nil ?_
    refine X.ret ?_
    refine RetQ.imp (Imp.freeze (k := 7) rfl) ?_
    refine RetQ.ret (.many (by decide) (.cons (.tmp rfl (LeV.eq ?_)) (.cons (.tmp rfl (LeV.eq ?_)) .nil)))
    all_goals (first | (simp [hc1]; done) | (rw [if_pos hc1, ← hfin]; rfl) | (rw [if_neg hc1]) | (rw [hc1]; rfl) | rfl)
set_option maxHeartbeats 4000000 in
theorem C_tactusref09_Rule (m : Mn) (l : List Sg) (hl : l.length ≤ 1000) : Fn Try.prog 36 [mnA m, sgsA l] (.tup [intsA (if ckR m l = 0 then ruleR m l else []), iv (ckR m l)]) := by
  refine Fn.go Try.func36 Try.ntmps36 (fun g w d => ?_)
  refine X.seq ?_
  refine X.region ?_
  refine Ex.ba ?_
  iterate 2 refine Ex.pu ?_
  refine Ex.nil ?_
  refine X.seq ?_
  refine X.region ?_
  iterate 2 refine Ex.pu ?_
  refine Ex.ca (C_tactusref09_Check m l hl) ?_
  refine Ex.pu ?_
  refine Ex.nil ?_
  refine X.seq ?_
  refine X.seq ?_
  refine X.region ?_
  iterate 2 refine Ex.pu ?_
  refine Ex.nil ?_
  refine X.cd rfl (fun hc1 => ?_) (fun hc1 => ?_)
  · refine X.seq ?_
    refine X.region ?_
    iterate 3 refine Ex.pu ?_
    refine Ex.nil ?_
    refine X.ret ?_
    refine RetQ.imp (Imp.au (ts := [(4, intsA []), (5, iv (ckR m l))]) (hs := [])) ?_
    refine RetQ.ret (.many (by decide) (.cons (.tmp rfl (LeV.eq ?_)) (.cons (.tmp rfl (LeV.eq ?_)) .nil)))
    all_goals (first | (simp [hc1]; done) | (rw [if_pos hc1, ← hfin]; rfl) | (rw [if_neg hc1]) | (rw [hc1]; rfl) | rfl)
  refine X.skip ?_
  refine X.seq ?_
  refine X.region ?_
  refine Ex.pu ?_
  refine Ex.nil ?_
  refine X.seq ?_
  refine X.seq ?_
  refine X.imp (Imp.mkrow intE 3 1 7 7 rfl rfl) ?_
  refine X.region ?_
  refine Ex.pu ?_
  refine Ex.nil ?_
  refine X.block ?_
  refine X.lp (ι := Nat) (fun (k : Nat) => [(1, sgsA l), (2, .ptr 2 0 0 0), (7, .own 7), (8, iv (k : Int))]) (fun (k : Nat) => [(2, .box (mnE m) 23), (7, .row intE ((dotsK l k).map (ruleAtR m l)) 3 1)]) (fun (k : Nat) => k ≤ l.length) (fun (k : Nat) => l.length - k) 0 (fun k hk => ?_)
  refine X.seq ?_
  refine X.seq ?_
  refine X.region ?_
  iterate 4 refine Ex.pu ?_
  refine Ex.nil ?_
  refine X.cd rfl (fun hc2 => ?_) (fun hc2 => ?_)
  · obtain ⟨s, hs⟩ : ∃ s, l[k]? = some s := ⟨_, List.getElem?_eq_getElem (by omega)⟩
    have hs2 : l[(k : Int).toNat]? = some s := by simpa using hs
    have hdl := dotsK_len l k
    have htl : ((dotsK l k).map (ruleAtR m l)).length ≤ 1000 := by simp; omega
    refine X.skip ?_
    refine X.seq ?_
    refine X.block ?_
    refine X.seq ?_
    refine X.seq ?_
    refine X.region ?_
    iterate 6 refine Ex.pu ?_
    refine Ex.nil ?_
    refine X.cd rfl (fun hc3 => ?_) (fun hc3 => ?_)
    · have hrow2 := dotsK_no (ruleAtR m l) hs hc3
      refine X.exit ?_
      refine X.region ?_
      iterate 3 refine Ex.pu ?_
      refine Ex.nil ?_
      refine X.bk (k + 1)
    obtain ⟨p, hk0, hp, hpS, hp8⟩ := prevR hc1 hs hc3
    have hrow2 := dotsK_yes (ruleAtR m l) hs hc3
    rw [show ruleAtR m l k = choiceR m l k p by unfold ruleAtR; rw [hpS]] at hrow2
    have hml := mngR_len m p
    obtain ⟨c0, hc0⟩ : ∃ c0, (mngR m p)[(0 : Int).toNat]? = some c0 := ⟨_, List.getElem?_eq_getElem (by simp; omega)⟩
    have hhd : (mngR m p).headD 0 = c0 := by
      cases hq : mngR m p with
      | nil => simp [hq] at hml
      | cons a b => simp [hq] at hc0; simp [hc0]
    refine X.skip ?_
    refine X.seq ?_
    refine X.dw [9,30,31,32,33,34,35,36] [0,0,0,4,14,30,63,127] mo ?_
    iterate 6 refine ChM.pu ?_
    refine ChM.ca (C_tactusref09_meanings m _) ?_
    refine ChM.pu ?_
    refine ChM.tl ?_
    refine Ex.nil ?_
    refine X.seq ?_
    refine X.dw [10,11,37,38,39,40,41,42,43,44,45,46,47] [0,0,0,4,14,30,62,127,255,511,511,1023,4095] mo ?_
    iterate 7 refine ChM.pu ?_
    refine ChM.ca (C_tactusref05_Above' m p.Value) ?_
    iterate 5 refine ChM.pu ?_
    refine ChM.tl ?_
    refine Ex.nil ?_
    refine X.block ?_
    refine X.seq ?_
    refine X.region ?_
    iterate 4 refine Ex.pu ?_
    refine Ex.nil ?_
    refine X.cd rfl (fun hc4 => ?_) (fun hc4 => ?_)
    · have hch : choiceR m l k p = c0 := by unfold choiceR; rw [if_pos (by omega), hhd]
      rw [hch] at hrow2
      refine X.region ?_
      iterate 4 refine Ex.pu ?_
      refine Ex.bs intE [_] ?_
      refine Ex.mo ?_
      refine Ex.pu ?_
      refine Ex.nil ?_
      refine X.region ?_
      iterate 3 refine Ex.pu ?_
      refine Ex.nil ?_
      refine X.bk (k + 1)
    · have hnx := nextV_eq (k := k) (v := p.Value) (by omega : k < l.length) (by omega)
      refine X.seq ?_
      refine X.dw [62,63,64,65,66,67,68,69,70,71,72,73,74,75,76,77,78,79,80,81,82] [0,1,0,4,15,31,63,63,191,511,1023,2047,63,63,8255,28735,61503,127039,262143,524287,1048575] mo ?_
      iterate 6 refine ChM.pu ?_
      iterate 13 refine ChM.gi ?_
      iterate 2 refine ChM.pu ?_
      refine ChM.tl ?_
      refine Ex.nil ?_
      refine X.cd rfl (fun hc5 => ?_) (fun hc5 => ?_)
      · have hch : choiceR m l k p = ownV (mngR m p) p.Value := by unfold choiceR; rw [if_neg (by omega), if_pos (hnx.1 hc5)]
        rw [hch] at hrow2
        refine X.region ?_
        iterate 8 refine Ex.pu ?_
        refine Ex.ca (C_tactusref09_own (mngR m p) p.Value (by omega)) ?_
        refine Ex.bs intE [_] ?_
        refine Ex.mo ?_
        refine Ex.pu ?_
        refine Ex.nil ?_
        refine X.region ?_
        iterate 3 refine Ex.pu ?_
        refine Ex.nil ?_
        refine X.bk (k + 1)
      · have hch : choiceR m l k p = m.aV p.Value := by unfold choiceR; rw [if_neg (by omega), if_neg (fun h => by have := hnx.2 h; omega)]
        rw [hch] at hrow2
        refine X.region ?_
        iterate 2 refine Ex.pu ?_
        refine Ex.bs intE [_] ?_
        refine Ex.mo ?_
        refine Ex.pu ?_
        refine Ex.nil ?_
        refine X.region ?_
        iterate 3 refine Ex.pu ?_
        refine Ex.nil ?_
        refine X.bk (k + 1)
  · have hkl : k = l.length := by omega
    subst hkl
    have hfin : (dotsK l l.length).map (ruleAtR m l) = ruleR m l := rfl
    refine X.exit ?_
    refine X.seq ?_
    refine X.region ?_
    iterate 3 refine Ex.pu ?_
    refine Ex.nil ?_
    refine X.ret ?_
    refine RetQ.imp (Imp.freeze (k := 7) rfl) ?_
    refine RetQ.ret (.many (by decide) (.cons (.tmp rfl (LeV.eq ?_)) (.cons (.tmp rfl (LeV.eq ?_)) .nil)))
    all_goals (first | (simp [hc1]; done) | (rw [if_pos hc1, ← hfin]; rfl) | (rw [if_neg hc1]) | (rw [hc1]; rfl) | rfl)
theorem C_tactusref09_Check' (m : Mn) (l : List Sg) (hl : l.length ≤ 1000) : Fn Try.prog 41 [mnA m, sgsA l] (iv (ckD m l)) := by
  rw [ckD_R]; exact C_tactusref09_Check m l hl
theorem C_tactusref09_Meanings' (m : Mn) (l : List Sg) (hl : l.length ≤ 1000) : Fn Try.prog 33 [mnA m, sgsA l] (.tup [listsA (if ckD m l = 0 then mnsD m l else []), iv (ckD m l)]) := by
  have h := C_tactusref09_Meanings m l hl
  rw [← ckD_R] at h
  by_cases e : ckD m l = 0
  · rw [if_pos e] at h ⊢; rw [mnsD_R e]; exact h
  · rw [if_neg e] at h ⊢; exact h
theorem C_tactusref09_Rule' (m : Mn) (l : List Sg) (hl : l.length ≤ 1000) : Fn Try.prog 36 [mnA m, sgsA l] (.tup [intsA (if ckD m l = 0 then ruleD m l else []), iv (ckD m l)]) := by
  have h := C_tactusref09_Rule m l hl
  rw [← ckD_R] at h
  by_cases e : ckD m l = 0
  · rw [if_pos e] at h ⊢; rw [ruleD_R e]; exact h
  · rw [if_neg e] at h ⊢; exact h
theorem C_tactusref09_Count (m : Mn) (l : List Sg) (hl : l.length ≤ 1000) : Fn Try.prog 39 [mnA m, sgsA l] (.tup [iv (cntV m l), iv (cntE m l)]) := by
  refine Fn.go Try.func39 Try.ntmps39 (fun g w d => ?_)
  refine X.seq ?_
  refine X.region ?_
  refine Ex.ba ?_
  iterate 2 refine Ex.pu ?_
  refine Ex.nil ?_
  refine X.seq ?_
  refine X.region ?_
  iterate 2 refine Ex.pu ?_
  refine Ex.ca (C_tactusref09_Meanings' m l hl) ?_
  iterate 5 refine Ex.pu ?_
  refine Ex.nil ?_
  refine X.seq ?_
  refine X.seq ?_
  refine X.region ?_
  iterate 2 refine Ex.pu ?_
  refine Ex.nil ?_
  refine X.cd rfl (fun hc1 => ?_) (fun hc1 => ?_)
  · refine X.seq ?_
    refine X.region ?_
    iterate 3 refine Ex.pu ?_
    refine Ex.nil ?_
    refine X.ret ?_
    refine RetQ.ret (.many (by decide) (.cons (.tmp rfl (LeV.eq ?_)) (.cons (.tmp rfl (LeV.eq ?_)) .nil)))
    all_goals (first | (unfold cntV; rw [if_neg hc1]; done) | (unfold cntE; rw [if_neg hc1]; done))
  refine X.skip ?_
  refine X.seq ?_
  have hms : (if ckD m l = 0 then mnsD m l else []) = mnsD m l := if_pos hc1
  have hml := mnsD_len m l
  rw [hms]
  refine X.region ?_
  refine Ex.pu ?_
  refine Ex.nil ?_
  refine X.seq ?_
  refine X.seq ?_
  refine X.region ?_
  refine Ex.pu ?_
  refine Ex.nil ?_
  refine X.block ?_
  refine X.lp (ι := Nat × Int) (fun (p : Nat × Int) => [(6, listsA (mnsD m l)), (8, iv p.2), (9, iv (p.1 : Int))]) (fun (p : Nat × Int) => []) (fun (p : Nat × Int) => p.1 ≤ (mnsD m l).length ∧ 0 ≤ p.2 ∧ p.2 ≤ 64 ∧ cntF 1 (mnsD m l) = cntF p.2 ((mnsD m l).drop p.1)) (fun (p : Nat × Int) => (mnsD m l).length - p.1) (0, 1) (fun p hk => ?_) (hJ := by
    exact ⟨by simp, by simp, by simp, rfl⟩)
  obtain ⟨k, n⟩ := p
  obtain ⟨hk1, hn0, hn1, hk2⟩ := hk
  dsimp only at *
  refine X.seq ?_
  refine X.seq ?_
  refine X.region ?_
  iterate 4 refine Ex.pu ?_
  refine Ex.nil ?_
  refine X.cd rfl (fun hc2 => ?_) (fun hc2 => ?_)
  · obtain ⟨x, hx⟩ : ∃ x, (mnsD m l)[k]? = some x := ⟨_, List.getElem?_eq_getElem (by omega)⟩
    have hx2 : (mnsD m l)[(k : Int).toNat]? = some x := by simpa using hx
    have hxl := mnsD_len2 (List.mem_of_getElem? hx)
    have hb0 : 0 ≤ n * (x.length : Int) := Int.mul_nonneg hn0 (by omega)
    have hb1 : n * (x.length : Int) ≤ 64 * 2 := Int.mul_le_mul hn1 (by omega) (by omega) (by omega)
    refine X.skip ?_
    refine X.seq ?_
    refine X.block ?_
    refine X.seq ?_
    refine X.region ?_
    iterate 8 refine Ex.pu ?_
    refine Ex.nil ?_
    refine X.seq ?_
    refine X.region ?_
    iterate 2 refine Ex.pu ?_
    refine Ex.nil ?_
    refine X.cd rfl (fun hc3 => ?_) (fun hc3 => ?_)
    · have hC : cntF 1 (mnsD m l) = n * (x.length : Int) := by rw [hk2, cntF_step hx, if_pos (by omega)]
      refine X.seq ?_
      refine X.region ?_
      iterate 2 refine Ex.pu ?_
      refine Ex.nil ?_
      refine X.ret ?_
      refine RetQ.ret (.many (by decide) (.cons (.tmp rfl (LeV.eq ?_)) (.cons (.tmp rfl (LeV.eq ?_)) .nil)))
      all_goals (first | (unfold cntV; rw [if_pos hc1, hC, if_pos (by omega)]; done) | (unfold cntE; rw [if_pos hc1, hC, if_pos (by omega)]; done))
    refine X.skip ?_
    refine X.region ?_
    iterate 3 refine Ex.pu ?_
    refine Ex.nil ?_
    refine X.bk ((k + 1, n * (x.length : Int))) (hJ := by
      exact ⟨by omega, by omega, by omega, by rw [hk2, cntF_step hx, if_neg (by omega)]⟩) (hm := by dsimp only; omega)
  · have hC : cntF 1 (mnsD m l) = n := by rw [hk2, List.drop_of_length_le (by omega)]; rfl
    refine X.exit ?_
    refine X.seq ?_
    refine X.region ?_
    iterate 3 refine Ex.pu ?_
    refine Ex.nil ?_
    refine X.ret ?_
    refine RetQ.ret (.many (by decide) (.cons (.tmp rfl (LeV.eq ?_)) (.cons (.tmp rfl (LeV.eq ?_)) .nil)))
    all_goals (first | (unfold cntV; rw [if_pos hc1, hC, if_neg (by omega)]; done) | (unfold cntE; rw [if_pos hc1, hC, if_neg (by omega)]; done))
end Go.Rse
