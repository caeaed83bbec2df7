/-
  Plain: the reference's meanings of a dot are the program's.
  Walks: the reference for dots.
-/
import Derived.Test.YtmbjfeaipblfcaaGreatDoorDotB
import Derived.Test.YtmbjfeaipblfcaaGreatDoorRef5
import Derived.Test.YtmbjfeaipblfcaaGreatDoorLogB
namespace Go.Rse
open Go Go.Proofs
set_option linter.unusedSimpArgs false
set_option linter.unusedVariables false
theorem coll_one (a : Int) : coll posI [a] = if 0 < a then [a] else [] := by
  unfold coll dl posI srtI
  by_cases h : 0 < a
  · simp only [h, if_true, List.filter_cons, decide_true, Bool.not_true, Bool.not_false, List.filter_nil, List.mergeSort_singleton]
    simp [Lib.compact, Lib.compactUpTo, Lib.keeps, List.range_succ]
  · simp only [h, if_false, List.filter_cons, decide_false, Bool.not_true, Bool.not_false, List.filter_nil, List.mergeSort_nil]
    simp [Lib.compact, Lib.compactUpTo]
theorem srt2 {a v : Int} (h : a < v) : srtI [v, a] = [a, v] := by
  unfold srtI
  have h1 : ¬ v ≤ a := by omega
  simp [List.mergeSort, List.MergeSort.Internal.splitInTwo, List.merge, h1]
theorem coll_two {v a : Int} (hv : 0 < v) (ha : a < v) : coll posI [v, a] = if 0 < a then [a, v] else [v] := by
  unfold coll
  by_cases h : 0 < a
  · have e : dl (fun v => !posI v) [v, a] = [v, a] := by simp [dl, posI, h, hv]
    rw [e, srt2 ha, if_pos h]
    have h2 : ¬ v = a := by omega
    have h3 : ¬ a = v := by omega
    simp [Lib.compact, Lib.compactUpTo, Lib.keeps, List.range_succ, h2, h3]
  · have e : dl (fun v => !posI v) [v, a] = [v] := by simp [dl, posI, h, hv]
    rw [e, if_neg h]
    simp [srtI, Lib.compact, Lib.compactUpTo, Lib.keeps, List.range_succ]
theorem ab_rng (m : Mn) {v : Int} (h : 1 ≤ v) : 0 ≤ m.ab v ∧ m.ab v < v := by
  unfold Mn.ab
  cases e : (perfL m).find? fun k => decide (k < v) with
  | none => simp; omega
  | some k =>
    have h1 := List.find?_some e
    have h2 := List.mem_of_find?_eq_some e
    have h3 := (List.mem_filter.1 h2).1
    simp at h1 h3 ⊢
    omega
theorem p23 {m : Mn} {v : Int} (hM : ckM m = 0) : m.p v = 2 ∨ m.p v = 3 := by
  have hO : m.Ok := by
    unfold ckM at hM; split at hM
    · assumption
    · omega
  obtain ⟨a, b, c, d⟩ := hO
  unfold two3 at *
  unfold Mn.p
  split
  · assumption
  · split
    · assumption
    · split
      · assumption
      · split
        · assumption
        · exact .inl rfl
theorem ckMV_zero {m : Mn} {v : Int} (hM : ckM m = 0) (h1 : 1 ≤ v) (h2 : v ≤ 8) : ckMV m v = 0 := by
  have hO : m.Ok := by
    unfold ckM at hM; split at hM
    · assumption
    · omega
  unfold ckMV; rw [if_pos hO, if_pos ⟨h1, h2⟩]
theorem aV_rng {m : Mn} {v : Int} (h1 : 1 ≤ v) : 0 ≤ m.aV v ∧ m.aV v < v := by
  have := ab_rng m h1
  unfold Mn.aV
  split
  · exact this
  · omega
/-- The meanings of a dot as the reference counts them up. -/
def mngR (m : Mn) (s : Sg) : List Int :=
  if s.Kind = 2 then [m.aV s.Value] else if s.Color = true then [0] else if m.p s.Value = 2 ∧ m.aV s.Value = 0 then [0] else if m.p s.Value = 2 then [0, m.aV s.Value] else if m.aV s.Value = 0 then [s.Value] else [m.aV s.Value, s.Value]
theorem mngs_R {m : Mn} {s : Sg} (hM : ckM m = 0) (h1 : 1 ≤ s.Value) (h2 : s.Value ≤ 8) (hz : ¬ (s.Kind = 2 ∧ m.aV s.Value = 0)) : mngs m s = mngR m s := by
  have ha := aV_rng (m := m) h1
  have hp := p23 (m := m) (v := s.Value) hM
  have hpV : m.pV s.Value = m.p s.Value := by unfold Mn.pV; rw [if_pos (ckMV_zero hM h1 h2)]
  unfold mngs mngR
  rw [hpV, coll_one]
  by_cases hK : s.Kind = 2
  · have : 0 < m.aV s.Value := by
      have : ¬ m.aV s.Value = 0 := fun h => hz ⟨hK, h⟩
      omega
    rw [if_pos hK, if_pos hK, if_pos this]
  · rw [if_neg hK, if_neg hK]
    by_cases hC : s.Color = true
    · rw [if_pos hC, if_pos hC]
    · rw [if_neg hC, if_neg hC]
      rcases hp with hp | hp
      · by_cases h0 : m.aV s.Value = 0
        · simp [hp, h0]
        · have h4 : 0 < m.aV s.Value := by omega
          simp [hp, h0, h4]
      · rw [coll_two (by omega) ha.2]
        by_cases h0 : m.aV s.Value = 0
        · simp [hp, h0]
        · have h4 : 0 < m.aV s.Value := by omega
          simp [hp, h0, h4]
theorem mngs_zero {m : Mn} {s : Sg} (hM : ckM m = 0) (h1 : 1 ≤ s.Value) (h2 : s.Value ≤ 8) : (mngs m s).length = 0 ↔ (s.Kind = 2 ∧ m.aV s.Value = 0) := by
  constructor
  · intro h
    refine Classical.byContradiction fun hz => ?_
    rw [mngs_R hM h1 h2 hz] at h
    unfold mngR at h
    split at h
    · simp at h
    · split at h
      · simp at h
      · split at h
        · simp at h
        · split at h
          · simp at h
          · split at h <;> simp at h
  · rintro ⟨hK, h0⟩
    unfold mngs
    rw [if_pos hK, coll_one, if_neg (by omega)]; rfl
/-! ### The reference's answers -/
def sgR (m : Mn) (l : List Sg) (k : Nat) (s : Sg) : Int :=
  if s.Kind = 1 ∨ s.Kind = 2 then (if 1 ≤ s.Value ∧ s.Value ≤ 8 then 0 else 2)
  else if s.Kind = 3 then (match k with | 0 => 13 | j + 1 => match l[j]? with | some p => if p.Kind = 3 ∨ (p.Kind = 2 ∧ m.aV p.Value = 0) then 13 else 0 | none => 13)
  else 8
def ckFromR (m : Mn) (l : List Sg) : Nat → List Sg → Int
  | _, [] => 0
  | k, s :: r => if sgR m l k s = 0 then ckFromR m l (k + 1) r else sgR m l k s
def ckR (m : Mn) (l : List Sg) : Int := if ckM m = 0 then ckFromR m l 0 l else ckM m
theorem ckFromR_ok {m : Mn} {l : List Sg} {k : Nat} {s : Sg} (h : l[k]? = some s) (h0 : sgR m l k s = 0) : ckFromR m l k (l.drop k) = ckFromR m l (k + 1) (l.drop (k + 1)) := by
  have hk : k < l.length := (List.getElem?_eq_some_iff.1 h).1
  rw [List.drop_eq_getElem_cons hk]
  have : l[k] = s := (List.getElem?_eq_some_iff.1 h).2
  rw [this]; simp only [ckFromR, h0, if_true]
theorem ckFromR_bad {m : Mn} {l : List Sg} {k : Nat} {s : Sg} (h : l[k]? = some s) (h0 : sgR m l k s ≠ 0) : ckFromR m l k (l.drop k) = sgR m l k s := by
  have hk : k < l.length := (List.getElem?_eq_some_iff.1 h).1
  rw [List.drop_eq_getElem_cons hk]
  have : l[k] = s := (List.getElem?_eq_some_iff.1 h).2
  rw [this]; simp only [ckFromR, if_neg h0]
theorem sgF_val {m : Mn} {l : List Sg} {k : Nat} {s : Sg} (h0 : sgF m l k s = 0) (hK : s.Kind ≠ 3) : (s.Kind = 1 ∨ s.Kind = 2) ∧ 1 ≤ s.Value ∧ s.Value ≤ 8 := by
  unfold sgF at h0
  by_cases h : s.Kind = 1 ∨ s.Kind = 2
  · rw [if_pos h] at h0
    refine ⟨h, ?_⟩
    by_cases hv : 1 ≤ s.Value ∧ s.Value ≤ 8
    · exact hv
    · rw [if_neg hv] at h0; simp at h0
  · rw [if_neg h, if_neg hK] at h0; simp at h0
theorem sgF_R {m : Mn} {l : List Sg} {k : Nat} {s : Sg} (hM : ckM m = 0) (hs : l[k]? = some s) (hb : ∀ i s, i < k → l[i]? = some s → sgF m l i s = 0) : sgF m l k s = sgR m l k s := by
  unfold sgF sgR
  by_cases h : s.Kind = 1 ∨ s.Kind = 2
  · rw [if_pos h, if_pos h]
  · rw [if_neg h, if_neg h]
    by_cases h3 : s.Kind = 3
    · rw [if_pos h3, if_pos h3]
      cases k with
      | zero => rfl
      | succ j =>
        cases hp : l[j]? with
        | none => simp only [hp]
        | some p =>
          simp only [hp]
          by_cases hk3 : p.Kind = 3
          · rw [if_pos (.inl hk3), if_pos (.inl hk3)]
          · obtain ⟨_, h1, h2⟩ := sgF_val (hb j p (by omega) hp) hk3
            by_cases hz : (mngs m p).length = 0
            · rw [if_pos (.inr hz), if_pos (.inr ((mngs_zero hM h1 h2).1 hz))]
            · rw [if_neg (fun h => h.elim hk3 hz), if_neg (fun h => h.elim hk3 (fun h => hz ((mngs_zero hM h1 h2).2 h)))]
    · rw [if_neg h3, if_neg h3]
theorem ckFrom_R {m : Mn} {l : List Sg} (hM : ckM m = 0) : ∀ (n k : Nat), l.length - k = n → k ≤ l.length → (∀ i s, i < k → l[i]? = some s → sgF m l i s = 0) → ckFrom m l k (l.drop k) = ckFromR m l k (l.drop k)
  | 0, k, hn, hk, hb => by
    rw [List.drop_of_length_le (by omega)]; rfl
  | n + 1, k, hn, hk, hb => by
    have hs : l[k]? = some l[k] := List.getElem?_eq_getElem (by omega)
    have he := sgF_R hM hs hb
    by_cases h0 : sgF m l k l[k] = 0
    · rw [ckFrom_ok hs h0, ckFromR_ok hs (by rw [← he]; exact h0)]
      refine ckFrom_R hM n (k + 1) (by omega) (by omega) fun i s hi hsi => ?_
      rcases Nat.lt_succ_iff_lt_or_eq.1 hi with h | h
      · exact hb i s h hsi
      · subst h; rw [hs] at hsi; injection hsi with hsi; subst hsi; exact h0
    · rw [ckFrom_bad hs h0, ckFromR_bad hs (by rw [← he]; exact h0), he]
theorem ckD_R (m : Mn) (l : List Sg) : ckD m l = ckR m l := by
  unfold ckD ckR
  by_cases hM : ckM m = 0
  · rw [if_pos hM, if_pos hM]
    have := ckFrom_R (l := l) hM l.length 0 rfl (Nat.zero_le _) (fun i s h => absurd h (Nat.not_lt_zero i))
    simpa using this
  · rw [if_neg hM, if_neg hM]
theorem ckD_zero {m : Mn} {l : List Sg} (h : ckD m l = 0) : ckM m = 0 ∧ ckFrom m l 0 l = 0 := by
  unfold ckD at h
  by_cases hM : ckM m = 0
  · rw [if_pos hM] at h; exact ⟨hM, h⟩
  · rw [if_neg hM] at h; exact absurd h hM
/-- The sign before a dot of a valid run. -/
theorem prevOk {m : Mn} {l : List Sg} (h : ckD m l = 0) {j : Nat} {s p : Sg} (hs : l[j + 1]? = some s) (h3 : s.Kind = 3) (hp : l[j]? = some p) :
    p.Kind ≠ 3 ∧ (p.Kind = 1 ∨ p.Kind = 2) ∧ 1 ≤ p.Value ∧ p.Value ≤ 8 ∧ ¬ (p.Kind = 2 ∧ m.aV p.Value = 0) ∧ mngs m p = mngR m p := by
  obtain ⟨hM, hF⟩ := ckD_zero h
  have hall := (ckFrom_all hF l.length (Nat.le_refl _)).2
  have h0 := hall (j + 1) s (List.getElem?_eq_some_iff.1 hs).1 hs
  unfold sgF at h0
  rw [if_neg (by omega), if_pos h3] at h0
  simp only [hp] at h0
  have hk : ¬ (p.Kind = 3 ∨ (mngs m p).length = 0) := fun h => by rw [if_pos h] at h0; simp at h0
  have hk3 : p.Kind ≠ 3 := fun h => hk (.inl h)
  obtain ⟨h5, h1, h2⟩ := sgF_val (hall j p (List.getElem?_eq_some_iff.1 hp).1 hp) hk3
  have hz : ¬ (p.Kind = 2 ∧ m.aV p.Value = 0) := fun h => hk (.inr ((mngs_zero hM h1 h2).2 h))
  exact ⟨hk3, h5, h1, h2, hz, mngs_R hM h1 h2 hz⟩
theorem dotsK_kind {l : List Sg} : ∀ (k : Nat) (x : Int), x ∈ dotsK l k → ∃ (j : Nat) (s : Sg), x = (j : Int) ∧ l[j]? = some s ∧ s.Kind = 3
  | 0, x, hx => by simp [dotsK] at hx
  | k + 1, x, hx => by
    simp only [dotsK, List.mem_append] at hx
    rcases hx with hx | hx
    · exact dotsK_kind k x hx
    · cases hs : l[k]? with
      | none => simp [hs] at hx
      | some s =>
        simp only [hs] at hx
        split at hx
        · rename_i hK; simp at hx; exact ⟨k, s, hx, hs, hK⟩
        · simp at hx
def mnAtR (m : Mn) (l : List Sg) (i : Int) : List Int := match prevS l i with | some p => mngR m p | none => []
def mnsR (m : Mn) (l : List Sg) : List (List Int) := (dotsK l l.length).map (mnAtR m l)
theorem dotPrev {m : Mn} {l : List Sg} (h : ckD m l = 0) {x : Int} (hx : x ∈ dotsK l l.length) : ∃ (j : Nat) (s p : Sg), x = ((j + 1 : Nat) : Int) ∧ l[j + 1]? = some s ∧ s.Kind = 3 ∧ l[j]? = some p ∧ prevS l x = some p := by
  obtain ⟨j, s, p, h1, h2, h3⟩ := dotsK_mem (ckD_zero h).2 l.length (Nat.le_refl _) x hx
  obtain ⟨j', s', h4, h5, h6⟩ := dotsK_kind l.length x hx
  have : j' = j + 1 := by omega
  subst this
  rw [h2] at h5; injection h5 with h5; subst h5
  refine ⟨j, s, p, h1, h2, h6, h3, ?_⟩
  unfold prevS
  rw [show (x - 1).toNat = j by omega]; exact h3
theorem mnsD_R {m : Mn} {l : List Sg} (h : ckD m l = 0) : mnsD m l = mnsR m l := by
  refine List.map_congr_left fun x hx => ?_
  obtain ⟨j, s, p, h1, h2, h3, h4, h5⟩ := dotPrev h hx
  unfold mnAt mnAtR
  rw [h5]
  exact (prevOk h h2 h3 h4).2.2.2.2.2
/-- 0 or v, whichever is first in the list. -/
def ownV : List Int → Int → Int
  | [], _ => 0
  | x :: r, v => if x = 0 ∨ x = v then x else ownV r v
def choiceR (m : Mn) (l : List Sg) (i : Int) (p : Sg) : Int :=
  if (mngR m p).length = 1 then (mngR m p).headD 0 else if nextV l i > p.Value then ownV (mngR m p) p.Value else m.aV p.Value
def ruleAtR (m : Mn) (l : List Sg) (i : Int) : Int := match prevS l i with | some p => choiceR m l i p | none => 0
def ruleR (m : Mn) (l : List Sg) : List Int := (dotsK l l.length).map (ruleAtR m l)
theorem choice_R {m : Mn} {l : List Sg} {i : Int} {p : Sg} (hM : ckM m = 0) (h1 : 1 ≤ p.Value) (h2 : p.Value ≤ 8) (he : mngs m p = mngR m p) : choice m l i p = choiceR m l i p := by
  have ha := aV_rng (m := m) h1
  have hp := p23 (m := m) (v := p.Value) hM
  have hpV : m.pV p.Value = m.p p.Value := by unfold Mn.pV; rw [if_pos (ckMV_zero hM h1 h2)]
  unfold choice choiceR
  rw [he, hpV]
  unfold mngR
  split
  · simp
  · split
    · simp
    · split
      · simp
      · split
        · rename_i h3 h4 h5 h6
          have : ¬ m.aV p.Value = 0 := fun h => h5 ⟨h6, h⟩
          by_cases hn : nextV l i ≤ p.Value
          · simp [hn]; omega
          · simp [hn, ownV, h6]
        · split
          · simp
          · rename_i h3 h4 h5 h6 h7
            by_cases hn : nextV l i ≤ p.Value
            · simp [hn]; omega
            · have h8 : m.p p.Value = 3 := by omega
              have h9 : ¬ m.aV p.Value = p.Value := by omega
              simp [hn, ownV, h8, h7, h9]
theorem ruleD_R {m : Mn} {l : List Sg} (h : ckD m l = 0) : ruleD m l = ruleR m l := by
  refine List.map_congr_left fun x hx => ?_
  obtain ⟨j, s, p, h1, h2, h3, h4, h5⟩ := dotPrev h hx
  obtain ⟨_, _, q1, q2, _, q3⟩ := prevOk h h2 h3 h4
  unfold ruleAt ruleAtR
  rw [h5]
  exact choice_R (ckD_zero h).1 q1 q2 q3
end Go.Rse
namespace Go.Rse
open Go Go.Proofs
set_option linter.unusedVariables false
set_option linter.unusedSimpArgs false
attribute [local irreducible] Pur StepA StepM Ex X ExG Fn Imp LeV LeB FnO It YStep
theorem C_tactusref05_Above' (m : Mn) (v : Int) : Fn Tryz.prog 139 [mnA m, iv v] (.tup [iv (m.aV v), iv (ckMV m v)]) := C_tactusref05_Above m v
def lastV (l : List Sg) (k : Nat) : Int := match k with
  | 0 => -1
  | j + 1 => match l[j]? with | some p => if p.Kind = 3 then -1 else (j : Int) | none => -1
theorem ownV_step {L : List Int} {k : Nat} {x v : Int} (h : L[k]? = some x) : ownV (L.drop k) v = if x = 0 ∨ x = v then x else ownV (L.drop (k + 1)) v := by
  have hk : k < L.length := (List.getElem?_eq_some_iff.1 h).1
  rw [List.drop_eq_getElem_cons hk]
  have : L[k] = x := (List.getElem?_eq_some_iff.1 h).2
  rw [this]; rfl
theorem mngR_len (m : Mn) (s : Sg) : 1 ≤ (mngR m s).length ∧ (mngR m s).length ≤ 2 := by
  unfold mngR
  repeat' split
  all_goals simp
theorem dotsK_yes {l : List Sg} {k : Nat} {s : Sg} {α : Type} (f : Int → α) (h : l[k]? = some s) (h3 : s.Kind = 3) : (dotsK l k).map f ++ [f k] = (dotsK l (k + 1)).map f := by
  simp [dotsK, h, h3]
theorem dotsK_no {l : List Sg} {k : Nat} {s : Sg} {α : Type} (f : Int → α) (h : l[k]? = some s) (h3 : ¬ s.Kind = 3) : (dotsK l k).map f = (dotsK l (k + 1)).map f := by
  simp [dotsK, h, h3]
theorem prevR {m : Mn} {l : List Sg} (h : ckR m l = 0) {k : Nat} {s : Sg} (hs : l[k]? = some s) (h3 : s.Kind = 3) : ∃ p : Sg, 0 < k ∧ l[((k : Int) - 1).toNat]? = some p ∧ prevS l k = some p ∧ p.Value ≤ 8 := by
  rw [← ckD_R] at h
  cases k with
  | zero =>
    have := (ckFrom_all (ckD_zero h).2 1 (List.getElem?_eq_some_iff.1 hs).1).2 0 s (by omega) hs
    unfold sgF at this
    rw [if_neg (by omega), if_pos h3] at this
    simp at this
  | succ j =>
    have hlt := (List.getElem?_eq_some_iff.1 hs).1
    obtain ⟨p, hj⟩ : ∃ p, l[j]? = some p := ⟨_, List.getElem?_eq_getElem (by omega)⟩
    have e : (((j + 1 : Nat) : Int) - 1).toNat = j := by omega
    exact ⟨p, by omega, by rw [e]; exact hj, by unfold prevS; rw [e]; exact hj, (prevOk h hs h3 hj).2.2.2.1⟩
theorem last_sg {m : Mn} {l : List Sg} {k : Nat} {s : Sg} (hs : l[k]? = some s) (h3 : s.Kind = 3) :
    (lastV l k < 0 ∧ sgR m l k s = 13) ∨ (∃ p : Sg, 0 ≤ lastV l k ∧ l[(lastV l k).toNat]? = some p ∧ sgR m l k s = if p.Kind = 2 ∧ m.aV p.Value = 0 then 13 else 0) := by
  cases k with
  | zero => exact .inl ⟨by simp [lastV], by unfold sgR; rw [if_neg (by omega), if_pos h3]⟩
  | succ j =>
    have hlt := (List.getElem?_eq_some_iff.1 hs).1
    obtain ⟨p, hp⟩ : ∃ p, l[j]? = some p := ⟨_, List.getElem?_eq_getElem (by omega)⟩
    by_cases hk : p.Kind = 3
    · refine .inl ⟨by simp [lastV, hp, hk], ?_⟩
      unfold sgR; rw [if_neg (by omega), if_pos h3]; simp only [hp]; rw [if_pos (.inl hk)]
    · refine .inr ⟨p, by simp [lastV, hp, hk], by simp [lastV, hp, hk], ?_⟩
      unfold sgR; rw [if_neg (by omega), if_pos h3]; simp only [hp]; simp [hk]
theorem lastV_eq {l : List Sg} {k : Nat} (hk : k < l.length) : lastV l k = if 0 < (k : Int) ∧ ¬ (l.getD ((k : Int) - 1).toNat default).Kind = 3 then (k : Int) - 1 else -1 := by
  cases k with
  | zero => rfl
  | succ j =>
    have e : (((j + 1 : Nat) : Int) - 1).toNat = j := by omega
    have hp : l[j]? = some (l.getD j default) := by rw [List.getD_eq_getElem?_getD, List.getElem?_eq_getElem (by omega)]; rfl
    rw [e]; unfold lastV; simp only [hp]
    generalize l.getD j default = p
    by_cases h : p.Kind = 3
    · rw [if_pos h, if_neg (by omega)]
    · rw [if_neg h, if_pos ⟨by omega, h⟩]; omega
theorem nextV_eq {l : List Sg} {k : Nat} {v : Int} (hk : k < l.length) (hv : v ≤ 8) : ((k : Int) + 1 = (l.length : Int) ∨ v < (l.getD ((k : Int) + 1).toNat default).Value) ↔ nextV l k > v := by
  unfold nextV
  rcases Nat.lt_or_ge (k + 1) l.length with h | h
  · have hp : l[((k : Int) + 1).toNat]? = some (l.getD ((k : Int) + 1).toNat default) := by rw [List.getD_eq_getElem?_getD, List.getElem?_eq_getElem (by omega)]; rfl
    simp only [hp]
    generalize l.getD ((k : Int) + 1).toNat default = p
    constructor
    · intro h; omega
    · intro h; exact .inr (by omega)
  · rw [List.getElem?_eq_none (by omega)]
    constructor
    · intro _; show (9 : Int) > v; omega
    · intro _; exact .inl (by omega)
theorem C_tactusref09_last (l : List Sg) (k : Nat) (hk : k < l.length) (hl : l.length ≤ 4000000000) : Fn Tryz.prog 138 [sgsA l, iv (k : Int)] (iv (lastV l k)) := by
  refine Fn.go Tryz.func138 Tryz.ntmps138 (fun g w d => ?_)
  refine X.seq ?_
  refine X.region ?_
  refine Ex.pu ?_
  refine Ex.nil ?_
  refine X.seq ?_
  refine X.seq ?_
  refine X.region ?_
  iterate 2 refine Ex.pu ?_
  refine ExF.at 2 ?_
  refine ExF.pu ?_
  iterate 7 refine ExF.gi ?_
  refine ExF.done ?_
  refine Ex.pu ?_
  refine Ex.nil ?_
  refine X.cd rfl (fun hc1 => ?_) (fun hc1 => ?_)
  · have HL := hc1
    refine X.seq ?_
    refine X.region ?_
    iterate 3 refine Ex.pu ?_
    refine Ex.nil ?_
    refine X.ret ?_
    refine RetQ.ret (.one (.tmp rfl (LeV.eq ?_)))
    all_goals (congr 1; rw [lastV_eq hk, if_pos HL])
  refine X.skip ?_
  refine X.seq ?_
  refine X.region ?_
  refine Ex.pu ?_
  refine Ex.nil ?_
  refine X.ret ?_
  refine RetQ.ret (.one (.tmp rfl (LeV.eq ?_)))
  all_goals (congr 1; rw [lastV_eq hk, if_neg (by omega)])
theorem C_tactusref09_own (l : List Int) (v : Int) (hl : l.length ≤ 4000000000) : Fn Tryz.prog 146 [intsA l, iv v] (iv (ownV l v)) := by
  refine Fn.go Tryz.func146 Tryz.ntmps146 (fun g w d => ?_)
  refine X.seq ?_
  refine X.region ?_
  refine Ex.pu ?_
  refine Ex.nil ?_
  refine X.seq ?_
  refine X.seq ?_
  refine X.region ?_
  refine Ex.pu ?_
  refine Ex.nil ?_
  refine X.block ?_
  refine X.lp (ι := Nat) (fun (k : Nat) => [(0, intsA l), (1, iv v), (5, iv (k : Int))]) (fun (k : Nat) => []) (fun (k : Nat) => k ≤ l.length ∧ ownV l v = ownV (l.drop k) v) (fun (k : Nat) => l.length - k) 0 (fun k hk => ?_) (hJ := by
    exact ⟨by omega, rfl⟩)
  obtain ⟨hk1, hk2⟩ := hk
  refine X.seq ?_
  refine X.seq ?_
  refine X.region ?_
  iterate 4 refine Ex.pu ?_
  refine Ex.nil ?_
  refine X.cd rfl (fun hc1 => ?_) (fun hc1 => ?_)
  · obtain ⟨x, hx⟩ : ∃ x, l[k]? = some x := ⟨_, List.getElem?_eq_getElem (by omega)⟩
    have hx2 : l[(k : Int).toNat]? = some x := by simpa using hx
    refine X.skip ?_
    refine X.seq ?_
    refine X.block ?_
    refine X.seq ?_
    refine X.region ?_
    iterate 5 refine Ex.pu ?_
    refine ExF.at 5 ?_
    refine ExF.pu ?_
    iterate 6 refine ExF.gi ?_
    refine ExF.done ?_
    refine Ex.pu ?_
    refine Ex.nil ?_
    refine X.cd rfl (fun hc2 => ?_) (fun hc2 => ?_)
    · refine X.seq ?_
      refine X.region ?_
      iterate 5 refine Ex.pu ?_
      refine Ex.nil ?_
      refine X.ret ?_
      refine RetQ.ret (.one (.tmp rfl (LeV.eq ?_)))
      all_goals (congr 1; rw [hk2, ownV_step hx, if_pos (by simpa using hc2)])
    refine X.skip ?_
    refine X.region ?_
    iterate 3 refine Ex.pu ?_
    refine Ex.nil ?_
    refine X.bk (k + 1) (hJ := by
      exact ⟨by omega, by rw [hk2, ownV_step hx, if_neg (by simpa using hc2)]⟩)
  · refine X.exit ?_
    refine X.seq ?_
    refine X.region ?_
    refine Ex.pu ?_
    refine Ex.nil ?_
    refine X.ret ?_
    refine RetQ.ret (.one (.tmp rfl (LeV.eq ?_)))
    all_goals (congr 1; rw [hk2, List.drop_of_length_le (by omega)]; rfl)
set_option maxHeartbeats 2000000 in
theorem C_tactusref09_Check (m : Mn) (l : List Sg) (hl : l.length ≤ 1000) : Fn Tryz.prog 74 [mnA m, sgsA l] (iv (ckR m l)) := by
  refine Fn.go Tryz.func74 Tryz.ntmps74 (fun g w d => ?_)
  refine X.seq ?_
  refine X.region ?_
  refine Ex.ba ?_
  refine Ex.pu ?_
  refine Ex.nil ?_
  refine X.seq ?_
  refine X.region ?_
  refine Ex.pu ?_
  refine Ex.ca (C_tactusref05_Check m) ?_
  refine Ex.pu ?_
  refine Ex.nil ?_
  refine X.seq ?_
  refine X.seq ?_
  refine X.region ?_
  iterate 2 refine Ex.pu ?_
  refine Ex.nil ?_
  refine X.cd rfl (fun hc1 => ?_) (fun hc1 => ?_)
  · refine X.seq ?_
    refine X.region ?_
    iterate 2 refine Ex.pu ?_
    refine Ex.nil ?_
    refine X.ret ?_
    refine RetQ.ret (.one (.tmp rfl (LeV.eq ?_)))
    all_goals (first | rfl | (unfold ckR; rw [if_neg hc1]))
  refine X.skip ?_
  refine X.seq ?_
  refine X.seq ?_
  refine X.region ?_
  refine Ex.pu ?_
  refine Ex.nil ?_
  refine X.block ?_
  refine X.lp (ι := Nat) (fun (k : Nat) => [(1, sgsA l), (2, .ptr 2 0 0 0), (6, iv (k : Int))]) (fun (k : Nat) => [(2, .box (mnE m) 23)]) (fun (k : Nat) => k ≤ l.length ∧ ckR m l = ckFromR m l k (l.drop k)) (fun (k : Nat) => l.length - k) 0 (fun k hk => ?_) (hJ := by
    exact ⟨by omega, by unfold ckR; rw [if_pos hc1]; rfl⟩)
  obtain ⟨hk1, hk2⟩ := hk
  refine X.seq ?_
  refine X.seq ?_
  refine X.region ?_
  iterate 4 refine Ex.pu ?_
  refine Ex.nil ?_
  refine X.cd rfl (fun hc2 => ?_) (fun hc2 => ?_)
  · obtain ⟨s, hs⟩ : ∃ s, l[k]? = some s := ⟨_, List.getElem?_eq_getElem (by omega)⟩
    have hs2 : l[(k : Int).toNat]? = some s := by simpa using hs
    refine X.skip ?_
    refine X.seq ?_
    refine X.block ?_
    refine X.seq ?_
    refine X.region ?_
    iterate 5 refine Ex.pu ?_
    refine Ex.nil ?_
    refine X.block ?_
    refine X.seq ?_
    refine X.seq ?_
    refine X.region ?_
    iterate 2 refine Ex.pu ?_
    refine Ex.nil ?_
    refine X.cd rfl (fun hc3 => ?_) (fun hc3 => ?_)
    · refine X.skip ?_
      refine X.cd rfl (fun hc4 => ?_) (fun hc4 => ?_)
      · refine X.seq ?_
        refine X.region ?_
        iterate 6 refine Ex.pu ?_
        refine ExF.at 6 ?_
        refine ExF.pu ?_
        iterate 6 refine ExF.gi ?_
        refine ExF.done ?_
        refine Ex.pu ?_
        refine Ex.nil ?_
        refine X.cd rfl (fun hc5 => ?_) (fun hc5 => ?_)
        · have hF : sgR m l k s = 2 := by unfold sgR; rw [if_pos (.inl hc3), if_neg (by omega)]
          refine X.seq ?_
          refine X.region ?_
          refine Ex.pu ?_
          refine Ex.nil ?_
          refine X.ret ?_
          refine RetQ.ret (.one (.tmp rfl (LeV.eq ?_)))
          all_goals (rw [hk2, ckFromR_bad hs (by rw [hF]; decide), hF])
        have h0 : sgR m l k s = 0 := by unfold sgR; rw [if_pos (.inl hc3), if_pos (by omega)]
        refine X.skip ?_
        refine X.region ?_
        iterate 3 refine Ex.pu ?_
        refine Ex.nil ?_
        refine X.bk (k + 1) (hJ := by
          exact ⟨by omega, by rw [hk2, ckFromR_ok hs h0]⟩)
      · exact absurd hc3 hc4
    · refine X.region ?_
      iterate 2 refine Ex.pu ?_
      refine Ex.nil ?_
      refine X.cd rfl (fun hc6 => ?_) (fun hc6 => ?_)
      · refine X.seq ?_
        refine X.region ?_
        iterate 6 refine Ex.pu ?_
        refine ExF.at 6 ?_
        refine ExF.pu ?_
        iterate 6 refine ExF.gi ?_
        refine ExF.done ?_
        refine Ex.pu ?_
        refine Ex.nil ?_
        refine X.cd rfl (fun hc7 => ?_) (fun hc7 => ?_)
        · have hF : sgR m l k s = 2 := by unfold sgR; rw [if_pos (.inr hc6), if_neg (by omega)]
          refine X.seq ?_
          refine X.region ?_
          refine Ex.pu ?_
          refine Ex.nil ?_
          refine X.ret ?_
          refine RetQ.ret (.one (.tmp rfl (LeV.eq ?_)))
          all_goals (rw [hk2, ckFromR_bad hs (by rw [hF]; decide), hF])
        have h0 : sgR m l k s = 0 := by unfold sgR; rw [if_pos (.inr hc6), if_pos (by omega)]
        refine X.skip ?_
        refine X.region ?_
        iterate 3 refine Ex.pu ?_
        refine Ex.nil ?_
        refine X.bk (k + 1) (hJ := by
          exact ⟨by omega, by rw [hk2, ckFromR_ok hs h0]⟩)
      · refine X.seq ?_
        refine X.region ?_
        iterate 2 refine Ex.pu ?_
        refine Ex.nil ?_
        refine X.cd rfl (fun hc8 => ?_) (fun hc8 => ?_)
        · have hcs := last_sg (m := m) hs hc8
          refine X.seq ?_
          refine X.region ?_
          iterate 2 refine Ex.pu ?_
          refine Ex.ca (C_tactusref09_last l k (by omega) (by omega)) ?_
          refine Ex.pu ?_
          refine Ex.nil ?_
          refine X.seq ?_
          refine X.seq ?_
          refine X.region ?_
          iterate 2 refine Ex.pu ?_
          refine Ex.nil ?_
          refine X.cd rfl (fun hc9 => ?_) (fun hc9 => ?_)
          · have hF : sgR m l k s = 13 := by
              rcases hcs with h | ⟨p, h, _⟩
              · exact h.2
              · omega
            refine X.seq ?_
            refine X.region ?_
            refine Ex.pu ?_
            refine Ex.nil ?_
            refine X.ret ?_
            refine RetQ.ret (.one (.tmp rfl (LeV.eq ?_)))
            all_goals (rw [hk2, ckFromR_bad hs (by rw [hF]; decide), hF])
          obtain ⟨p, hl0, hp, hsg⟩ : ∃ p : Sg, 0 ≤ lastV l k ∧ l[(lastV l k).toNat]? = some p ∧ sgR m l k s = if p.Kind = 2 ∧ m.aV p.Value = 0 then 13 else 0 := by
            rcases hcs with h | h
            · omega
            · exact h
          refine X.skip ?_
          refine X.seq ?_
          refine X.dw [8,9,50,51,52,53,54,55,56,57,58,59] [0,0,0,6,14,30,63,127,255,255,511,2047] mo ?_
          iterate 6 refine ChM.pu ?_
          refine ChM.ca (C_tactusref05_Above' m _) ?_
          iterate 5 refine ChM.pu ?_
          refine ChM.tl ?_
          refine Ex.nil ?_
          refine X.seq ?_
          refine X.region ?_
          iterate 6 refine Ex.pu ?_
          refine ExF.at 6 ?_
          refine ExF.pu ?_
          iterate 2 refine ExF.gi ?_
          refine ExF.done ?_
          refine Ex.pu ?_
          refine Ex.nil ?_
          refine X.cd rfl (fun hc10 => ?_) (fun hc10 => ?_)
          · have hF : sgR m l k s = 13 := by rw [hsg, if_pos hc10]
            refine X.seq ?_
            refine X.region ?_
            refine Ex.pu ?_
            refine Ex.nil ?_
            refine X.ret ?_
            refine RetQ.ret (.one (.tmp rfl (LeV.eq ?_)))
            all_goals (rw [hk2, ckFromR_bad hs (by rw [hF]; decide), hF])
          have h0 : sgR m l k s = 0 := by rw [hsg, if_neg (by first | exact hc10 | (intro h; simp_all) | omega)]
          refine X.skip ?_
          refine X.region ?_
          iterate 3 refine Ex.pu ?_
          refine Ex.nil ?_
          refine X.bk (k + 1) (hJ := by
            exact ⟨by omega, by rw [hk2, ckFromR_ok hs h0]⟩)
        · have hF : sgR m l k s = 8 := by unfold sgR; rw [if_neg (by omega), if_neg (by omega)]
          refine X.seq ?_
          refine X.region ?_
          refine Ex.pu ?_
          refine Ex.nil ?_
          refine X.ret ?_
          refine RetQ.ret (.one (.tmp rfl (LeV.eq ?_)))
          all_goals (rw [hk2, ckFromR_bad hs (by rw [hF]; decide), hF])
  · refine X.exit ?_
    refine X.seq ?_
    refine X.region ?_
    refine Ex.pu ?_
    refine Ex.nil ?_
    refine X.ret ?_
    refine RetQ.ret (.one (.tmp rfl (LeV.eq ?_)))
    all_goals (rw [hk2, List.drop_of_length_le (by omega)]; rfl)
theorem C_tactusref09_meanings (m : Mn) (s : Sg) : Fn Tryz.prog 141 [mnA m, sgA s] (intsA (mngR m s)) := by
  refine Fn.go Tryz.func141 Tryz.ntmps141 (fun g w d => ?_)
  refine X.seq ?_
  refine X.region ?_
  refine Ex.ba ?_
  refine Ex.ba ?_
  refine Ex.pu ?_
  refine Ex.nil ?_
  refine X.seq ?_
  refine X.region ?_
  iterate 3 refine Ex.pu ?_
  refine Ex.ca (C_tactusref05_Above' m s.Value) ?_
  iterate 5 refine Ex.pu ?_
  refine Ex.nil ?_
  refine X.seq ?_
  refine X.block ?_
  refine X.seq ?_
  refine X.region ?_
  iterate 4 refine Ex.pu ?_
  refine Ex.nil ?_
  refine X.cd rfl (fun hc1 => ?_) (fun hc1 => ?_)
  · refine X.seq ?_
    refine X.region ?_
    refine Ex.pu ?_
    refine Ex.bs intE [_] ?_
    refine Ex.pu ?_
    refine Ex.nil ?_
    refine X.ret ?_
    refine RetQ.imp (Imp.freeze (k := 19) rfl) ?_
    refine RetQ.ret (.one (.tmp rfl (LeV.eq ?_)))
    all_goals (first | (simp [mngR, *]; rfl) | (have h0 : ¬ m.aV s.Value = 0 := (by omega); simp [mngR, *]; rfl))
  refine X.seq ?_
  refine X.region ?_
  iterate 3 refine Ex.pu ?_
  refine Ex.nil ?_
  refine X.cd rfl (fun hc2 => ?_) (fun hc2 => ?_)
  · refine X.seq ?_
    refine X.region ?_
    refine Ex.bs intE [_] ?_
    refine Ex.pu ?_
    refine Ex.nil ?_
    refine X.ret ?_
    refine RetQ.imp (Imp.freeze (k := 23) rfl) ?_
    refine RetQ.ret (.one (.tmp rfl (LeV.eq ?_)))
    all_goals (first | (simp [mngR, *]; rfl) | (have h0 : ¬ m.aV s.Value = 0 := (by omega); simp [mngR, *]; rfl))
  refine X.seq ?_
  refine X.region ?_
  iterate 3 refine Ex.pu ?_
  refine Ex.ca (C_tactusref05_P m s.Value) ?_
  refine Ex.pu ?_
  refine ExF.at 5 ?_
  refine ExF.pu ?_
  iterate 2 refine ExF.gi ?_
  refine ExF.done ?_
  iterate 2 refine Ex.pu ?_
  refine Ex.nil ?_
  refine X.cd rfl (fun hc3 => ?_) (fun hc3 => ?_)
  · refine X.seq ?_
    refine X.region ?_
    refine Ex.bs intE [_] ?_
    refine Ex.pu ?_
    refine Ex.nil ?_
    refine X.ret ?_
    refine RetQ.imp (Imp.freeze (k := 34) rfl) ?_
    refine RetQ.ret (.one (.tmp rfl (LeV.eq ?_)))
    all_goals (first | (simp [mngR, *]; rfl) | (have h0 : ¬ m.aV s.Value = 0 := (by omega); simp [mngR, *]; rfl))
  refine X.seq ?_
  refine X.region ?_
  iterate 3 refine Ex.pu ?_
  refine Ex.ca (C_tactusref05_P m s.Value) ?_
  iterate 2 refine Ex.pu ?_
  refine Ex.nil ?_
  refine X.cd rfl (fun hc4 => ?_) (fun hc4 => ?_)
  · refine X.seq ?_
    refine X.region ?_
    refine Ex.pu ?_
    refine Ex.bs intE [_, _] ?_
    refine Ex.pu ?_
    refine Ex.nil ?_
    refine X.ret ?_
    refine RetQ.imp (Imp.freeze (k := 42) rfl) ?_
    refine RetQ.ret (.one (.tmp rfl (LeV.eq ?_)))
    all_goals (first | (simp [mngR, *]; rfl) | (have h0 : ¬ m.aV s.Value = 0 := (by omega); simp [mngR, *]; rfl))
  refine X.seq ?_
  refine X.region ?_
  iterate 3 refine Ex.pu ?_
  refine Ex.nil ?_
  refine X.cd rfl (fun hc5 => ?_) (fun hc5 => ?_)
  · refine X.seq ?_
    refine X.region ?_
    iterate 2 refine Ex.pu ?_
    refine Ex.bs intE [_] ?_
    refine Ex.pu ?_
    refine Ex.nil ?_
    refine X.ret ?_
    refine RetQ.imp (Imp.freeze (k := 48) rfl) ?_
    refine RetQ.ret (.one (.tmp rfl (LeV.eq ?_)))
    all_goals (first | (simp [mngR, *]; rfl) | (have h0 : ¬ m.aV s.Value = 0 := (by omega); simp [mngR, *]; rfl))
  refine X.skip ?_
  refine X.seq ?_
  refine X.region ?_
  iterate 3 refine Ex.pu ?_
  refine Ex.bs intE [_, _] ?_
  refine Ex.pu ?_
  refine Ex.nil ?_
  refine X.ret ?_
  refine RetQ.imp (Imp.freeze (k := 52) rfl) ?_
  refine RetQ.ret (.one (.tmp rfl (LeV.eq ?_)))
  all_goals (first | (simp [mngR, *]; rfl) | (have h0 : ¬ m.aV s.Value = 0 := (by omega); simp [mngR, *]; rfl))
theorem C_tactusref09_Meanings (m : Mn) (l : List Sg) (hl : l.length ≤ 1000) : Fn Tryz.prog 79 [mnA m, sgsA l] (.tup [listsA (if ckR m l = 0 then mnsR m l else []), iv (ckR m l)]) := by
  refine Fn.go Tryz.func79 Tryz.ntmps79 (fun g w d => ?_)
  refine X.seq ?_
  refine X.region ?_
  refine Ex.ba ?_
  iterate 2 refine Ex.pu ?_
  refine Ex.nil ?_
  refine X.seq ?_
  refine X.region ?_
  iterate 2 refine Ex.pu ?_
  refine Ex.ca (C_tactusref09_Check m l hl) ?_
  refine Ex.pu ?_
  refine Ex.nil ?_
  refine X.seq ?_
  refine X.seq ?_
  refine X.region ?_
  iterate 2 refine Ex.pu ?_
  refine Ex.nil ?_
  refine X.cd rfl (fun hc1 => ?_) (fun hc1 => ?_)
  · refine X.seq ?_
    refine X.region ?_
    iterate 3 refine Ex.pu ?_
    refine Ex.nil ?_
    refine X.ret ?_
    refine RetQ.imp (Imp.au (ts := [(4, listsA []), (5, iv (ckR m l))]) (hs := [])) ?_
    refine RetQ.ret (.many (by decide) (.cons (.tmp rfl (LeV.eq ?_)) (.cons (.tmp rfl (LeV.eq ?_)) .nil)))
    all_goals (first | (simp [hc1]; done) | (rw [if_pos hc1, ← hfin]; rfl) | (rw [if_neg hc1]) | (rw [hc1]; rfl) | rfl)
  refine X.skip ?_
  refine X.seq ?_
  refine X.region ?_
  refine Ex.pu ?_
  refine Ex.nil ?_
  refine X.seq ?_
  refine X.seq ?_
  refine X.imp (Imp.mkrow intsE 25 1 7 7 rfl rfl) ?_
  refine X.region ?_
  refine Ex.pu ?_
  refine Ex.nil ?_
  refine X.block ?_
  refine X.lp (ι := Nat) (fun (k : Nat) => [(1, sgsA l), (2, .ptr 2 0 0 0), (7, .own 7), (8, iv (k : Int))]) (fun (k : Nat) => [(2, .box (mnE m) 23), (7, .row intsE ((dotsK l k).map (mnAtR m l)) 25 1)]) (fun (k : Nat) => k ≤ l.length) (fun (k : Nat) => l.length - k) 0 (fun k hk => ?_)
  refine X.seq ?_
  refine X.seq ?_
  refine X.region ?_
  iterate 4 refine Ex.pu ?_
  refine Ex.nil ?_
  refine X.cd rfl (fun hc2 => ?_) (fun hc2 => ?_)
  · obtain ⟨s, hs⟩ : ∃ s, l[k]? = some s := ⟨_, List.getElem?_eq_getElem (by omega)⟩
    have hs2 : l[(k : Int).toNat]? = some s := by simpa using hs
    have hdl := dotsK_len l k
    have htl : ((dotsK l k).map (mnAtR m l)).length ≤ 1000 := by simp; omega
    refine X.skip ?_
    refine X.seq ?_
    refine X.block ?_
    refine X.seq ?_
    refine X.region ?_
    iterate 6 refine Ex.pu ?_
    refine Ex.nil ?_
    refine X.cd rfl (fun hc3 => ?_) (fun hc3 => ?_)
    · obtain ⟨p, hk0, hp, hpS, hp8⟩ := prevR hc1 hs hc3
      have hrow2 := dotsK_yes (mnAtR m l) hs hc3
      rw [show mnAtR m l k = mngR m p by unfold mnAtR; rw [hpS]] at hrow2
      refine X.seq ?_
      refine X.dw [9,28,29,30,31,32,33,34] [0,0,0,4,14,30,63,127] mo ?_
      iterate 6 refine ChM.pu ?_
      refine ChM.ca (C_tactusref09_meanings m _) ?_
      refine ChM.pu ?_
      refine ChM.tl ?_
      refine Ex.nil ?_
      refine X.region ?_
      iterate 2 refine Ex.pu ?_
      refine Ex.bs intsE [_] ?_
      refine Ex.mo ?_
      refine Ex.pu ?_
      refine Ex.nil ?_
      refine X.region ?_
      iterate 3 refine Ex.pu ?_
      refine Ex.nil ?_
      refine X.bk (k + 1)
    · have hrow2 := dotsK_no (mnAtR m l) hs hc3
      refine X.skip ?_
      refine X.region ?_
      iterate 3 refine Ex.pu ?_
      refine Ex.nil ?_
      refine X.bk (k + 1)
  · have hkl : k = l.length := by omega
    subst hkl
    have hfin : (dotsK l l.length).map (mnAtR m l) = mnsR m l := rfl
    refine X.exit ?_
    refine X.seq ?_
    refine X.region ?_
    iterate 3 refine Ex.pu ?_
    refine Ex.nil ?_
    refine X.ret ?_
    refine RetQ.imp (Imp.freeze (k := 7) rfl) ?_
    refine RetQ.ret (.many (by decide) (.cons (.tmp rfl (LeV.eq ?_)) (.cons (.tmp rfl (LeV.eq ?_)) .nil)))
    all_goals (first | (simp [hc1]; done) | (rw [if_pos hc1, ← hfin]; rfl) | (rw [if_neg hc1]) | (rw [hc1]; rfl) | rfl)
set_option maxHeartbeats 4000000 in
theorem C_tactusref09_Rule (m : Mn) (l : List Sg) (hl : l.length ≤ 1000) : Fn Tryz.prog 82 [mnA m, sgsA l] (.tup [intsA (if ckR m l = 0 then ruleR m l else []), iv (ckR m l)]) := by
  refine Fn.go Tryz.func82 Tryz.ntmps82 (fun g w d => ?_)
  refine X.seq ?_
  refine X.region ?_
  refine Ex.ba ?_
  iterate 2 refine Ex.pu ?_
  refine Ex.nil ?_
  refine X.seq ?_
  refine X.region ?_
  iterate 2 refine Ex.pu ?_
  refine Ex.ca (C_tactusref09_Check m l hl) ?_
  refine Ex.pu ?_
  refine Ex.nil ?_
  refine X.seq ?_
  refine X.seq ?_
  refine X.region ?_
  iterate 2 refine Ex.pu ?_
  refine Ex.nil ?_
  refine X.cd rfl (fun hc1 => ?_) (fun hc1 => ?_)
  · refine X.seq ?_
    refine X.region ?_
    iterate 3 refine Ex.pu ?_
    refine Ex.nil ?_
    refine X.ret ?_
    refine RetQ.imp (Imp.au (ts := [(4, intsA []), (5, iv (ckR m l))]) (hs := [])) ?_
    refine RetQ.ret (.many (by decide) (.cons (.tmp rfl (LeV.eq ?_)) (.cons (.tmp rfl (LeV.eq ?_)) .nil)))
    all_goals (first | (simp [hc1]; done) | (rw [if_pos hc1, ← hfin]; rfl) | (rw [if_neg hc1]) | (rw [hc1]; rfl) | rfl)
  refine X.skip ?_
  refine X.seq ?_
  refine X.region ?_
  refine Ex.pu ?_
  refine Ex.nil ?_
  refine X.seq ?_
  refine X.seq ?_
  refine X.imp (Imp.mkrow intE 3 1 7 7 rfl rfl) ?_
  refine X.region ?_
  refine Ex.pu ?_
  refine Ex.nil ?_
  refine X.block ?_
  refine X.lp (ι := Nat) (fun (k : Nat) => [(1, sgsA l), (2, .ptr 2 0 0 0), (7, .own 7), (8, iv (k : Int))]) (fun (k : Nat) => [(2, .box (mnE m) 23), (7, .row intE ((dotsK l k).map (ruleAtR m l)) 3 1)]) (fun (k : Nat) => k ≤ l.length) (fun (k : Nat) => l.length - k) 0 (fun k hk => ?_)
  refine X.seq ?_
  refine X.seq ?_
  refine X.region ?_
  iterate 4 refine Ex.pu ?_
  refine Ex.nil ?_
  refine X.cd rfl (fun hc2 => ?_) (fun hc2 => ?_)
  · obtain ⟨s, hs⟩ : ∃ s, l[k]? = some s := ⟨_, List.getElem?_eq_getElem (by omega)⟩
    have hs2 : l[(k : Int).toNat]? = some s := by simpa using hs
    have hdl := dotsK_len l k
    have htl : ((dotsK l k).map (ruleAtR m l)).length ≤ 1000 := by simp; omega
    refine X.skip ?_
    refine X.seq ?_
    refine X.block ?_
    refine X.seq ?_
    refine X.seq ?_
    refine X.region ?_
    iterate 6 refine Ex.pu ?_
    refine Ex.nil ?_
    refine X.cd rfl (fun hc3 => ?_) (fun hc3 => ?_)
    · have hrow2 := dotsK_no (ruleAtR m l) hs hc3
      refine X.exit ?_
      refine X.region ?_
      iterate 3 refine Ex.pu ?_
      refine Ex.nil ?_
      refine X.bk (k + 1)
    obtain ⟨p, hk0, hp, hpS, hp8⟩ := prevR hc1 hs hc3
    have hrow2 := dotsK_yes (ruleAtR m l) hs hc3
    rw [show ruleAtR m l k = choiceR m l k p by unfold ruleAtR; rw [hpS]] at hrow2
    have hml := mngR_len m p
    obtain ⟨c0, hc0⟩ : ∃ c0, (mngR m p)[(0 : Int).toNat]? = some c0 := ⟨_, List.getElem?_eq_getElem (by simp; omega)⟩
    have hhd : (mngR m p).headD 0 = c0 := by
      cases hq : mngR m p with
      | nil => simp [hq] at hml
      | cons a b => simp [hq] at hc0; simp [hc0]
    refine X.skip ?_
    refine X.seq ?_
    refine X.dw [9,30,31,32,33,34,35,36] [0,0,0,4,14,30,63,127] mo ?_
    iterate 6 refine ChM.pu ?_
    refine ChM.ca (C_tactusref09_meanings m _) ?_
    refine ChM.pu ?_
    refine ChM.tl ?_
    refine Ex.nil ?_
    refine X.seq ?_
    refine X.dw [10,11,37,38,39,40,41,42,43,44,45,46,47] [0,0,0,4,14,30,62,127,255,511,511,1023,4095] mo ?_
    iterate 7 refine ChM.pu ?_
    refine ChM.ca (C_tactusref05_Above' m p.Value) ?_
    iterate 5 refine ChM.pu ?_
    refine ChM.tl ?_
    refine Ex.nil ?_
    refine X.block ?_
    refine X.seq ?_
    refine X.region ?_
    iterate 4 refine Ex.pu ?_
    refine Ex.nil ?_
    refine X.cd rfl (fun hc4 => ?_) (fun hc4 => ?_)
    · have hch : choiceR m l k p = c0 := by unfold choiceR; rw [if_pos (by omega), hhd]
      rw [hch] at hrow2
      refine X.region ?_
      iterate 4 refine Ex.pu ?_
      refine Ex.bs intE [_] ?_
      refine Ex.mo ?_
      refine Ex.pu ?_
      refine Ex.nil ?_
      refine X.region ?_
      iterate 3 refine Ex.pu ?_
      refine Ex.nil ?_
      refine X.bk (k + 1)
    · have hnx := nextV_eq (k := k) (v := p.Value) (by omega : k < l.length) (by omega)
      refine X.seq ?_
      refine X.dw [62,63,64,65,66,67,68,69,70,71,72,73,74,75,76,77,78,79,80,81,82] [0,1,0,4,15,31,63,63,191,511,1023,2047,63,63,8255,28735,61503,127039,262143,524287,1048575] mo ?_
      iterate 6 refine ChM.pu ?_
      iterate 13 refine ChM.gi ?_
      iterate 2 refine ChM.pu ?_
      refine ChM.tl ?_
      refine Ex.nil ?_
      refine X.cd rfl (fun hc5 => ?_) (fun hc5 => ?_)
      · have hch : choiceR m l k p = ownV (mngR m p) p.Value := by unfold choiceR; rw [if_neg (by omega), if_pos (hnx.1 hc5)]
        rw [hch] at hrow2
        refine X.region ?_
        iterate 8 refine Ex.pu ?_
        refine Ex.ca (C_tactusref09_own (mngR m p) p.Value (by omega)) ?_
        refine Ex.bs intE [_] ?_
        refine Ex.mo ?_
        refine Ex.pu ?_
        refine Ex.nil ?_
        refine X.region ?_
        iterate 3 refine Ex.pu ?_
        refine Ex.nil ?_
        refine X.bk (k + 1)
      · have hch : choiceR m l k p = m.aV p.Value := by unfold choiceR; rw [if_neg (by omega), if_neg (fun h => by have := hnx.2 h; omega)]
        rw [hch] at hrow2
        refine X.region ?_
        iterate 2 refine Ex.pu ?_
        refine Ex.bs intE [_] ?_
        refine Ex.mo ?_
        refine Ex.pu ?_
        refine Ex.nil ?_
        refine X.region ?_
        iterate 3 refine Ex.pu ?_
        refine Ex.nil ?_
        refine X.bk (k + 1)
  · have hkl : k = l.length := by omega
    subst hkl
    have hfin : (dotsK l l.length).map (ruleAtR m l) = ruleR m l := rfl
    refine X.exit ?_
    refine X.seq ?_
    refine X.region ?_
    iterate 3 refine Ex.pu ?_
    refine Ex.nil ?_
    refine X.ret ?_
    refine RetQ.imp (Imp.freeze (k := 7) rfl) ?_
    refine RetQ.ret (.many (by decide) (.cons (.tmp rfl (LeV.eq ?_)) (.cons (.tmp rfl (LeV.eq ?_)) .nil)))
    all_goals (first | (simp [hc1]; done) | (rw [if_pos hc1, ← hfin]; rfl) | (rw [if_neg hc1]) | (rw [hc1]; rfl) | rfl)
theorem C_tactusref09_Check' (m : Mn) (l : List Sg) (hl : l.length ≤ 1000) : Fn Tryz.prog 74 [mnA m, sgsA l] (iv (ckD m l)) := by
  rw [ckD_R]; exact C_tactusref09_Check m l hl
theorem C_tactusref09_Meanings' (m : Mn) (l : List Sg) (hl : l.length ≤ 1000) : Fn Tryz.prog 79 [mnA m, sgsA l] (.tup [listsA (if ckD m l = 0 then mnsD m l else []), iv (ckD m l)]) := by
  have h := C_tactusref09_Meanings m l hl
  rw [← ckD_R] at h
  by_cases e : ckD m l = 0
  · rw [if_pos e] at h ⊢; rw [mnsD_R e]; exact h
  · rw [if_neg e] at h ⊢; exact h
theorem C_tactusref09_Rule' (m : Mn) (l : List Sg) (hl : l.length ≤ 1000) : Fn Tryz.prog 82 [mnA m, sgsA l] (.tup [intsA (if ckD m l = 0 then ruleD m l else []), iv (ckD m l)]) := by
  have h := C_tactusref09_Rule m l hl
  rw [← ckD_R] at h
  by_cases e : ckD m l = 0
  · rw [if_pos e] at h ⊢; rw [ruleD_R e]; exact h
  · rw [if_neg e] at h ⊢; exact h
end Go.Rse
