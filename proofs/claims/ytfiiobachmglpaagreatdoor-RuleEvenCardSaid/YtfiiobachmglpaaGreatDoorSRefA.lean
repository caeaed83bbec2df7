/-
  Plain: the reference's meanings of a dot are the program's.
  Walks: the reference for dots.
-/
import Derived.Test.YtfiiobachmglpaaGreatDoorSDotB
import Derived.Test.YtfiiobachmglpaaGreatDoorSRef5
import Derived.Test.YtfiiobachmglpaaGreatDoorSLogB
set_option linter.unusedSimpArgs false
set_option linter.unusedVariables false
namespace Go.Rse
open Go Go.Proofs
theorem coll_one (a : Int) : coll posI [a] = if 0 < a then [a] else [] := by
 unfold coll dl posI srtI
 by_cases h : 0 < a
 ·simp only [h, if_true, List.filter_cons, decide_true, Bool.not_true, Bool.not_false, List.filter_nil, List.mergeSort_singleton]
  simp [Lib.compact, Lib.compactUpTo, Lib.keeps, List.range_succ]
 ·simp only [h, if_false, List.filter_cons, decide_false, Bool.not_true, Bool.not_false, List.filter_nil, List.mergeSort_nil]
  simp [Lib.compact, Lib.compactUpTo]
theorem srt2 {a v : Int} (h : a < v) : srtI [v, a] = [a, v] := by
 unfold srtI
 have h1 : ¬ v <= a := by omega
 simp [List.mergeSort, List.MergeSort.Internal.splitInTwo, List.merge, h1]
theorem coll_two {v a : Int} (hv : 0 < v) (ha : a < v) : coll posI [v, a] = if 0 < a then [a, v] else [v] := by
 unfold coll
 by_cases h : 0 < a
 ·have e : dl (fun v => !posI v) [v, a] = [v, a] := by simp [dl, posI, h, hv]
  rw [e, srt2 ha, if_pos h]
  have h2 : ¬ v = a := by omega
  have h3 : ¬ a = v := by omega
  simp [Lib.compact, Lib.compactUpTo, Lib.keeps, List.range_succ, h2, h3]
 ·have e : dl (fun v => !posI v) [v, a] = [v] := by simp [dl, posI, h, hv]
  rw [e, if_neg h]
  simp [srtI, Lib.compact, Lib.compactUpTo, Lib.keeps, List.range_succ]
theorem ab_rng (m : Mn) {v : Int} (h : 1 <= v) : 0 <= m.ab v /\ m.ab v < v := by
 unfold Mn.ab
 cases e : (perfL m).find? fun k => decide (k < v) with
 | none => simp; omega
 | some k =>
  have h1 := List.find?_some e
  have h2 := List.mem_of_find?_eq_some e
  have h3 := (List.mem_filter.1 h2).1
  simp at h1 h3 ⊢
  omega
theorem p23 {m : Mn} {v : Int} (hM : ckM m = 0) : m.p v = 2 \/ m.p v = 3 := by
 have hO : m.Ok := by
  unfold ckM at hM; split at hM
  ·assumption
  ·omega
 obtain ⟨a, b, c, d⟩ := hO
 unfold two3 at *
 unfold Mn.p
 split
 ·assumption
 ·split
  ·assumption
  ·split
   ·assumption
   ·split
    ·assumption
    ·exact .inl rfl
theorem ckMV_zero {m : Mn} {v : Int} (hM : ckM m = 0) (h1 : 1 <= v) (h2 : v <= 8) : ckMV m v = 0 := by
 have hO : m.Ok := by
  unfold ckM at hM; split at hM
  ·assumption
  ·omega
 unfold ckMV; rw [if_pos hO, if_pos ⟨h1, h2⟩]
theorem aV_rng {m : Mn} {v : Int} (h1 : 1 <= v) : 0 <= m.aV v /\ m.aV v < v := by
 have := ab_rng m h1
 unfold Mn.aV
 split
 ·exact this
 ·omega
def mngR (m : Mn) (s : Sg) : List Int :=
 if s.Kind = 2 then [m.aV s.Value] else if s.Color = true then [0] else if m.p s.Value = 2 /\ m.aV s.Value = 0 then [0] else if m.p s.Value = 2 then [0, m.aV s.Value] else if m.aV s.Value = 0 then [s.Value] else [m.aV s.Value, s.Value]
theorem mngs_R {m : Mn} {s : Sg} (hM : ckM m = 0) (h1 : 1 <= s.Value) (h2 : s.Value <= 8) (hz : ¬ (s.Kind = 2 /\ m.aV s.Value = 0)) : mngs m s = mngR m s := by
 have ha := aV_rng (m := m) h1
 have hp := p23 (m := m) (v := s.Value) hM
 have hpV : m.pV s.Value = m.p s.Value := by unfold Mn.pV; rw [if_pos (ckMV_zero hM h1 h2)]
 unfold mngs mngR
 rw [hpV, coll_one]
 by_cases hK : s.Kind = 2
 ·have : 0 < m.aV s.Value := by
   have : ¬ m.aV s.Value = 0 := fun h => hz ⟨hK, h⟩
   omega
  rw [if_pos hK, if_pos hK, if_pos this]
 ·rw [if_neg hK, if_neg hK]
  by_cases hC : s.Color = true
  ·rw [if_pos hC, if_pos hC]
  ·rw [if_neg hC, if_neg hC]
   rcases hp with hp | hp
   ·by_cases h0 : m.aV s.Value = 0
    ·simp [hp, h0]
    ·have h4 : 0 < m.aV s.Value := by omega
     simp [hp, h0, h4]
   ·rw [coll_two (by omega) ha.2]
    by_cases h0 : m.aV s.Value = 0
    ·simp [hp, h0]
    ·have h4 : 0 < m.aV s.Value := by omega
     simp [hp, h0, h4]
theorem mngs_zero {m : Mn} {s : Sg} (hM : ckM m = 0) (h1 : 1 <= s.Value) (h2 : s.Value <= 8) : (mngs m s).length = 0 ↔ (s.Kind = 2 /\ m.aV s.Value = 0) := by
 constructor
 ·intro h
  refine Classical.byContradiction fun hz => ?_
  rw [mngs_R hM h1 h2 hz] at h
  unfold mngR at h
  split at h
  ·simp at h
  ·split at h
   ·simp at h
   ·split at h
    ·simp at h
    ·split at h
     ·simp at h
     ·split at h <;> simp at h
 ·rintro ⟨hK, h0⟩
  unfold mngs
  rw [if_pos hK, coll_one, if_neg (by omega)]; rfl
def sgR (m : Mn) (l : List Sg) (k : Nat) (s : Sg) : Int :=
 if s.Kind = 1 \/ s.Kind = 2 then (if 1 <= s.Value /\ s.Value <= 8 then 0 else 2)
 else if s.Kind = 3 then (match k with | 0 => 13 | j + 1 => match l[j]? with | some p => if p.Kind = 3 \/ (p.Kind = 2 /\ m.aV p.Value = 0) then 13 else 0 | none => 13)
 else 8
def ckFromR (m : Mn) (l : List Sg) : Nat -> List Sg -> Int
 | _, [] => 0
 | k, s :: r => if sgR m l k s = 0 then ckFromR m l (k + 1) r else sgR m l k s
def ckR (m : Mn) (l : List Sg) : Int := if ckM m = 0 then ckFromR m l 0 l else ckM m
theorem ckFromR_ok {m : Mn} {l : List Sg} {k : Nat} {s : Sg} (h : l[k]? = some s) (h0 : sgR m l k s = 0) : ckFromR m l k (l.drop k) = ckFromR m l (k + 1) (l.drop (k + 1)) := by
 have hk : k < l.length := (List.getElem?_eq_some_iff.1 h).1
 rw [List.drop_eq_getElem_cons hk]
 have : l[k] = s := (List.getElem?_eq_some_iff.1 h).2
 rw [this]; simp only [ckFromR, h0, if_true]
theorem ckFromR_bad {m : Mn} {l : List Sg} {k : Nat} {s : Sg} (h : l[k]? = some s) (h0 : sgR m l k s ≠ 0) : ckFromR m l k (l.drop k) = sgR m l k s := by
 have hk : k < l.length := (List.getElem?_eq_some_iff.1 h).1
 rw [List.drop_eq_getElem_cons hk]
 have : l[k] = s := (List.getElem?_eq_some_iff.1 h).2
 rw [this]; simp only [ckFromR, if_neg h0]
theorem sgF_val {m : Mn} {l : List Sg} {k : Nat} {s : Sg} (h0 : sgF m l k s = 0) (hK : s.Kind ≠ 3) : (s.Kind = 1 \/ s.Kind = 2) /\ 1 <= s.Value /\ s.Value <= 8 := by
 unfold sgF at h0
 by_cases h : s.Kind = 1 \/ s.Kind = 2
 ·rw [if_pos h] at h0
  refine ⟨h, ?_⟩
  by_cases hv : 1 <= s.Value /\ s.Value <= 8
  ·exact hv
  ·rw [if_neg hv] at h0; simp at h0
 ·rw [if_neg h, if_neg hK] at h0; simp at h0
theorem sgF_R {m : Mn} {l : List Sg} {k : Nat} {s : Sg} (hM : ckM m = 0) (hs : l[k]? = some s) (hb : ∀ i s, i < k -> l[i]? = some s -> sgF m l i s = 0) : sgF m l k s = sgR m l k s := by
 unfold sgF sgR
 by_cases h : s.Kind = 1 \/ s.Kind = 2
 ·rw [if_pos h, if_pos h]
 ·rw [if_neg h, if_neg h]
  by_cases h3 : s.Kind = 3
  ·rw [if_pos h3, if_pos h3]
   cases k with
   | zero => rfl
   | succ j =>
    cases hp : l[j]? with
    | none => simp only [hp]
    | some p =>
     simp only [hp]
     by_cases hk3 : p.Kind = 3
     ·rw [if_pos (.inl hk3), if_pos (.inl hk3)]
     ·obtain ⟨_, h1, h2⟩ := sgF_val (hb j p (by omega) hp) hk3
      by_cases hz : (mngs m p).length = 0
      ·rw [if_pos (.inr hz), if_pos (.inr ((mngs_zero hM h1 h2).1 hz))]
      ·rw [if_neg (fun h => h.elim hk3 hz), if_neg (fun h => h.elim hk3 (fun h => hz ((mngs_zero hM h1 h2).2 h)))]
  ·rw [if_neg h3, if_neg h3]
theorem ckFrom_R {m : Mn} {l : List Sg} (hM : ckM m = 0) : ∀ (n k : Nat), l.length - k = n -> k <= l.length -> (∀ i s, i < k -> l[i]? = some s -> sgF m l i s = 0) -> ckFrom m l k (l.drop k) = ckFromR m l k (l.drop k)
 | 0, k, hn, hk, hb => by
  rw [List.drop_of_length_le (by omega)]; rfl
 | n + 1, k, hn, hk, hb => by
  have hs : l[k]? = some l[k] := List.getElem?_eq_getElem (by omega)
  have he := sgF_R hM hs hb
  by_cases h0 : sgF m l k l[k] = 0
  ·rw [ckFrom_ok hs h0, ckFromR_ok hs (by rw [← he]; exact h0)]
   refine ckFrom_R hM n (k + 1) (by omega) (by omega) fun i s hi hsi => ?_
   rcases Nat.lt_succ_iff_lt_or_eq.1 hi with h | h
   ·exact hb i s h hsi
   ·subst h; rw [hs] at hsi; injection hsi with hsi; subst hsi; exact h0
  ·rw [ckFrom_bad hs h0, ckFromR_bad hs (by rw [← he]; exact h0), he]
theorem ckD_R (m : Mn) (l : List Sg) : ckD m l = ckR m l := by
 unfold ckD ckR
 by_cases hM : ckM m = 0
 ·rw [if_pos hM, if_pos hM]
  have := ckFrom_R (l := l) hM l.length 0 rfl (Nat.zero_le _) (fun i s h => absurd h (Nat.not_lt_zero i))
  simpa using this
 ·rw [if_neg hM, if_neg hM]
theorem ckD_zero {m : Mn} {l : List Sg} (h : ckD m l = 0) : ckM m = 0 /\ ckFrom m l 0 l = 0 := by
 unfold ckD at h
 by_cases hM : ckM m = 0
 ·rw [if_pos hM] at h; exact ⟨hM, h⟩
 ·rw [if_neg hM] at h; exact absurd h hM
theorem prevOk {m : Mn} {l : List Sg} (h : ckD m l = 0) {j : Nat} {s p : Sg} (hs : l[j + 1]? = some s) (h3 : s.Kind = 3) (hp : l[j]? = some p) :
 p.Kind ≠ 3 /\ (p.Kind = 1 \/ p.Kind = 2) /\ 1 <= p.Value /\ p.Value <= 8 /\ ¬ (p.Kind = 2 /\ m.aV p.Value = 0) /\ mngs m p = mngR m p := by
 obtain ⟨hM, hF⟩ := ckD_zero h
 have hall := (ckFrom_all hF l.length (Nat.le_refl _)).2
 have h0 := hall (j + 1) s (List.getElem?_eq_some_iff.1 hs).1 hs
 unfold sgF at h0
 rw [if_neg (by omega), if_pos h3] at h0
 simp only [hp] at h0
 have hk : ¬ (p.Kind = 3 \/ (mngs m p).length = 0) := fun h => by rw [if_pos h] at h0; simp at h0
 have hk3 : p.Kind ≠ 3 := fun h => hk (.inl h)
 obtain ⟨h5, h1, h2⟩ := sgF_val (hall j p (List.getElem?_eq_some_iff.1 hp).1 hp) hk3
 have hz : ¬ (p.Kind = 2 /\ m.aV p.Value = 0) := fun h => hk (.inr ((mngs_zero hM h1 h2).2 h))
 exact ⟨hk3, h5, h1, h2, hz, mngs_R hM h1 h2 hz⟩
theorem dotsK_kind {l : List Sg} : ∀ (k : Nat) (x : Int), x ∈ dotsK l k -> ∃ (j : Nat) (s : Sg), x = (j : Int) /\ l[j]? = some s /\ s.Kind = 3
 | 0, x, hx => by simp [dotsK] at hx
 | k + 1, x, hx => by
  simp only [dotsK, List.mem_append] at hx
  rcases hx with hx | hx
  ·exact dotsK_kind k x hx
  ·cases hs : l[k]? with
   | none => simp [hs] at hx
   | some s =>
    simp only [hs] at hx
    split at hx
    ·rename_i hK; simp at hx; exact ⟨k, s, hx, hs, hK⟩
    ·simp at hx
theorem dotPrev {m : Mn} {l : List Sg} (h : ckD m l = 0) {x : Int} (hx : x ∈ dotsK l l.length) : ∃ (j : Nat) (s p : Sg), x = ((j + 1 : Nat) : Int) /\ l[j + 1]? = some s /\ s.Kind = 3 /\ l[j]? = some p /\ prevS l x = some p := by
 obtain ⟨j, s, p, h1, h2, h3⟩ := dotsK_mem (ckD_zero h).2 l.length (Nat.le_refl _) x hx
 obtain ⟨j', s', h4, h5, h6⟩ := dotsK_kind l.length x hx
 have : j' = j + 1 := by omega
 subst this
 rw [h2] at h5; injection h5 with h5; subst h5
 refine ⟨j, s, p, h1, h2, h6, h3, ?_⟩
 unfold prevS
 rw [show (x - 1).toNat = j by omega]; exact h3
def ownV : List Int -> Int -> Int
 | [], _ => 0
 | x :: r, v => if x = 0 \/ x = v then x else ownV r v
def choiceR (m : Mn) (l : List Sg) (i : Int) (p : Sg) : Int :=
 if (mngR m p).length = 1 then (mngR m p).headD 0 else if nextV l i > p.Value then ownV (mngR m p) p.Value else m.aV p.Value
def ruleAtR (m : Mn) (l : List Sg) (i : Int) : Int := match prevS l i with | some p => choiceR m l i p | none => 0
def ruleR (m : Mn) (l : List Sg) : List Int := (dotsK l l.length).map (ruleAtR m l)
theorem choice_R {m : Mn} {l : List Sg} {i : Int} {p : Sg} (hM : ckM m = 0) (h1 : 1 <= p.Value) (h2 : p.Value <= 8) (he : mngs m p = mngR m p) : choice m l i p = choiceR m l i p := by
 have ha := aV_rng (m := m) h1
 have hp := p23 (m := m) (v := p.Value) hM
 have hpV : m.pV p.Value = m.p p.Value := by unfold Mn.pV; rw [if_pos (ckMV_zero hM h1 h2)]
 unfold choice choiceR
 rw [he, hpV]
 unfold mngR
 split
 ·simp
 ·split
  ·simp
  ·split
   ·simp
   ·split
    ·rename_i h3 h4 h5 h6
     have : ¬ m.aV p.Value = 0 := fun h => h5 ⟨h6, h⟩
     by_cases hn : nextV l i <= p.Value
     ·simp [hn]; omega
     ·simp [hn, ownV, h6]
    ·split
     ·simp
     ·rename_i h3 h4 h5 h6 h7
      by_cases hn : nextV l i <= p.Value
      ·simp [hn]; omega
      ·have h8 : m.p p.Value = 3 := by omega
       have h9 : ¬ m.aV p.Value = p.Value := by omega
       simp [hn, ownV, h8, h7, h9]
theorem ruleD_R {m : Mn} {l : List Sg} (h : ckD m l = 0) : ruleD m l = ruleR m l := by
 refine List.map_congr_left fun x hx => ?_
 obtain ⟨j, s, p, h1, h2, h3, h4, h5⟩ := dotPrev h hx
 obtain ⟨_, _, q1, q2, _, q3⟩ := prevOk h h2 h3 h4
 unfold ruleAt ruleAtR
 rw [h5]
 exact choice_R (ckD_zero h).1 q1 q2 q3
end Go.Rse
namespace Go.Rse
open Go Go.Proofs
attribute [local irreducible] Pur StepA StepM Ex X ExG Fn Imp LeV LeB FnO It YStep
end Go.Rse
