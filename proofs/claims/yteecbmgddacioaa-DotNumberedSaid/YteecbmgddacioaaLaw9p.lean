/-
  Plain: runs made of numbers are valid; without perfect values dots add.
-/
import Derived.Test.YteecbmgddacioaaLaw9d
namespace Go.Rse
open Go Go.Proofs
set_option linter.unusedVariables false
set_option linter.unusedSimpArgs false
/-- Notes and rests of middle values; dots behind notes. -/
def Gd (l : List Sg) : Prop := ∀ (i : Nat) s, l[i]? = some s → ((s.Kind = 1 ∨ s.Kind = 2) ∧ 2 ≤ s.Value ∧ s.Value ≤ 5) ∨ (s.Kind = 3 ∧ ∃ (j : Nat) (p : Sg), i = j + 1 ∧ l[j]? = some p ∧ p.Kind = 1)
theorem Gd.nil : Gd [] := fun i s h => by simp at h
theorem Gd.append {a b : List Sg} (ha : Gd a) (hb : Gd b) : Gd (a ++ b) := fun i s h => by
  rw [List.getElem?_append] at h
  split at h
  · rename_i hi
    rcases ha i s h with h1 | ⟨h1, j, p, h2, h3, h4⟩
    · exact .inl h1
    · exact .inr ⟨h1, j, p, h2, by rw [List.getElem?_append, if_pos (by omega)]; exact h3, h4⟩
  · rename_i hi
    rcases hb _ s h with h1 | ⟨h1, j, p, h2, h3, h4⟩
    · exact .inl h1
    · refine .inr ⟨h1, j + a.length, p, by omega, ?_, h4⟩
      rw [List.getElem?_append, if_neg (by omega), show j + a.length - a.length = j by omega]; exact h3
theorem mdS_gd (x : Int) : Gd (mdS x) := by
  have h4 : 0 ≤ x % 60 % 4 ∧ x % 60 % 4 < 4 := by omega
  unfold mdS
  split
  · intro i s h
    cases i with
    | zero => injection (show some _ = some s from h) with h; subst h; exact .inl ⟨.inr rfl, by show 2 ≤ 2 + x % 60 % 4; omega, by show 2 + x % 60 % 4 ≤ 5; omega⟩
    | succ i => simp at h
  · split
    · intro i s h
      cases i with
      | zero => injection (show some _ = some s from h) with h; subst h; exact .inl ⟨.inl rfl, by show 2 ≤ 2 + x % 60 % 4; omega, by show 2 + x % 60 % 4 ≤ 5; omega⟩
      | succ i =>
        cases i with
        | zero => injection (show some _ = some s from h) with h; subst h; exact .inr ⟨rfl, 0, _, rfl, rfl, rfl⟩
        | succ i => simp at h
    · intro i s h
      cases i with
      | zero => injection (show some _ = some s from h) with h; subst h; exact .inl ⟨.inl rfl, by show 2 ≤ 2 + x % 60 % 4; omega, by show 2 + x % 60 % 4 ≤ 5; omega⟩
      | succ i => simp at h
theorem flat_gd : ∀ (l : List Int), Gd (l.flatMap mdS)
  | [] => Gd.nil
  | x :: r => by rw [List.flatMap_cons]; exact (mdS_gd x).append (flat_gd r)
theorem mdRun_gd (l : List Int) : Gd (mdRun l) := flat_gd _
theorem mdRun_len (l : List Int) : (mdRun l).length ≤ 40 := md_len l 20
theorem sgR_gd {m : Mn} {l : List Sg} (h : Gd l) {i : Nat} {s : Sg} (hs : l[i]? = some s) : sgR m l i s = 0 := by
  unfold sgR
  rcases h i s hs with ⟨h1, h2, h3⟩ | ⟨h1, j, p, rfl, h3, h4⟩
  · rw [if_pos h1, if_pos ⟨by omega, by omega⟩]
  · rw [if_neg (by omega), if_pos h1]
    simp only [h3]
    rw [if_neg (by omega)]
theorem ckFromR_all {m : Mn} {l : List Sg} (h : ∀ (i : Nat) s, l[i]? = some s → sgR m l i s = 0) : ∀ (n k : Nat), l.length - k = n → ckFromR m l k (l.drop k) = 0
  | 0, k, hn => by rw [List.drop_of_length_le (by omega)]; rfl
  | n + 1, k, hn => by
    have hs : l[k]? = some l[k] := List.getElem?_eq_getElem (by omega)
    rw [ckFromR_ok hs (h k _ hs)]
    exact ckFromR_all h n (k + 1) (by omega)
theorem ckFromR_at {m : Mn} {l : List Sg} {N : Nat} {s : Sg} {e : Int} (h : ∀ (i : Nat) s, i < N → l[i]? = some s → sgR m l i s = 0) (hs : l[N]? = some s) (he : sgR m l N s = e) (h0 : e ≠ 0) : ∀ (n k : Nat), N - k = n → k ≤ N → ckFromR m l k (l.drop k) = e
  | 0, k, hn, hk => by
    have : k = N := by omega
    subst this
    rw [ckFromR_bad hs (by rw [he]; exact h0), he]
  | n + 1, k, hn, hk => by
    have hlt := (List.getElem?_eq_some_iff.1 hs).1
    have hk2 : l[k]? = some l[k] := List.getElem?_eq_getElem (by omega)
    rw [ckFromR_ok hk2 (h k _ (by omega) hk2)]
    exact ckFromR_at h hs he h0 n (k + 1) (by omega) (by omega)
theorem gd_ck {m : Mn} {l : List Sg} (hm : ckM m = 0) (h : Gd l) : ckD m l = 0 := by
  rw [ckD_R]; unfold ckR; rw [if_pos hm]
  have := ckFromR_all (m := m) (fun i s hs => sgR_gd h hs) l.length 0 rfl
  simpa using this
theorem half_ck : ckM mHalf = 0 := by decide
theorem half_aV (v : Int) : mHalf.aV v = 0 := by
  have : mHalf.ab v = 0 := rfl
  unfold Mn.aV; split
  · exact this
  · rfl
theorem half_p (v : Int) : mHalf.p v = 2 := by unfold Mn.p mHalf; repeat' split
                                               all_goals rfl
theorem half_mng {p : Sg} (h : p.Kind = 1) : mngR mHalf p = [0] := by
  unfold mngR
  rw [if_neg (by omega)]
  split
  · rfl
  · rw [if_pos ⟨half_p _, half_aV _⟩]
theorem gd_prev {m : Mn} {l : List Sg} (hm : ckM m = 0) (h : Gd l) {x : Int} (hx : x ∈ dotsK l l.length) : ∃ p, prevS l x = some p ∧ p.Kind = 1 ∧ mngs m p = mngR m p := by
  obtain ⟨j, s, p, h1, h2, h3, h4, h5⟩ := dotPrev (gd_ck hm h) hx
  refine ⟨p, h5, ?_, (prevOk (gd_ck hm h) h2 h3 h4).2.2.2.2.2⟩
  rcases h (j + 1) s h2 with h6 | ⟨_, j', p', e, h7, h8⟩
  · omega
  · have : j' = j := by omega
    subst this
    rw [h4] at h7; injection h7 with h7; subst h7; exact h8
theorem half_rule {l : List Sg} (h : Gd l) : ∀ x ∈ ruleD mHalf l, x = 0 := fun x hx => by
  rw [ruleD_R (gd_ck half_ck h)] at hx
  obtain ⟨i, hi, rfl⟩ := List.mem_map.1 hx
  obtain ⟨p, h1, h2, _⟩ := gd_prev half_ck h hi
  unfold ruleAtR; rw [h1]
  show choiceR mHalf l i p = 0
  unfold choiceR; rw [half_mng h2]; rfl
theorem cntF_one : ∀ {L : List (List Int)}, (∀ x ∈ L, x.length = 1) → cntF 1 L = 1
  | [], _ => rfl
  | x :: r, h => by
    have hx := h x (by simp)
    unfold cntF
    rw [hx, if_neg (by decide)]
    exact cntF_one fun y hy => h y (by simp [hy])
theorem half_cnt {l : List Sg} (h : Gd l) : cntV mHalf l = 1 ∧ cntE mHalf l = 0 := by
  have hL : ∀ x ∈ mnsD mHalf l, x.length = 1 := fun x hx => by
    rw [mnsD_R (gd_ck half_ck h)] at hx
    obtain ⟨i, hi, rfl⟩ := List.mem_map.1 hx
    obtain ⟨p, h1, h2, _⟩ := gd_prev half_ck h hi
    unfold mnAtR; rw [h1]
    show (mngR mHalf p).length = 1
    rw [half_mng h2]; rfl
  unfold cntV cntE
  rw [if_pos (gd_ck half_ck h), if_pos (gd_ck half_ck h), cntF_one hL]
  decide
theorem half_last {l : List Sg} (h : Gd l) : ckD mHalf (l ++ [sgRest 5, sgDot]) = 13 := by
  rw [ckD_R]; unfold ckR; rw [if_pos half_ck]
  have hr : (l ++ [sgRest 5, sgDot])[l.length]? = some (sgRest 5) := by simp
  have hd : (l ++ [sgRest 5, sgDot])[l.length + 1]? = some sgDot := by simp
  have h13 : sgR mHalf (l ++ [sgRest 5, sgDot]) (l.length + 1) sgDot = 13 := by
    unfold sgR
    rw [if_neg (by decide), if_pos (by decide)]
    simp only [hr]
    rw [if_pos (.inr ⟨rfl, half_aV _⟩)]
  have hg : Gd (l ++ [sgRest 5]) := h.append fun i s hs => by
    cases i with
    | zero => simp at hs; subst hs; exact .inl ⟨.inr rfl, by decide, by decide⟩
    | succ i => simp at hs
  have := ckFromR_at (m := mHalf) (l := l ++ [sgRest 5, sgDot]) (N := l.length + 1) (e := 13) (fun i s hi hs => ?_) hd h13 (by decide) (l.length + 1) 0 rfl (by omega)
  · simpa using this
  · have e : (l ++ [sgRest 5])[i]? = some s := by
      rw [List.getElem?_append] at hs ⊢
      split
      · rename_i hl; rw [if_pos hl] at hs; exact hs
      · rename_i hl; rw [if_neg hl] at hs
        have : i - l.length = 0 := by omega
        rw [this] at hs ⊢; simpa using hs
    have h1 := sgR_gd (m := mHalf) hg e
    have h2 : ∀ j, j < i → (l ++ [sgRest 5])[j]? = (l ++ [sgRest 5, sgDot])[j]? := fun j hj => by
      rw [List.getElem?_append, List.getElem?_append]
      split
      · rfl
      · have : j - l.length = 0 := by omega
        rw [this]; rfl
    unfold sgR at h1 ⊢
    cases i with
    | zero => exact h1
    | succ i => dsimp only at h1 ⊢; rw [h2 i (by omega)] at h1; exact h1
end Go.Rse
