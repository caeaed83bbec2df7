/-
  Plain: durations of the notes and rests of a run with pairs.
-/
import Derived.Test.YteecbmgddacioaaDurs0
namespace Go.Rse
open Go Go.Proofs
set_option linter.unusedVariables false
set_option linter.unusedSimpArgs false
/-- What the map holds after the first k pairs. -/
def markK (p mi : List Int) : Nat → List (Int × Tm)
  | 0 => []
  | k + 1 => if mi[k]? = some 2 then mput (p.getD k 0 + 1) ⟨1, 2⟩ (mput (p.getD k 0) ⟨3, 2⟩ (markK p mi k)) else markK p mi k
theorem getD_of {α : Type} {l : List α} {k : Nat} {x d : α} (h : l[k]? = some x) : l.getD k d = x := by
  rw [List.getD_eq_getElem?_getD, h]; rfl
theorem markK_two {p mi : List Int} {k : Nat} {x y : Int} (hx : p[k]? = some x) (hy : mi[k]? = some y) (h : y = 2) : mput (x + 1) ⟨1, 2⟩ (mput x ⟨3, 2⟩ (markK p mi k)) = markK p mi (k + 1) := by
  conv => rhs; unfold markK
  rw [if_pos (by rw [hy, h]), getD_of hx]
theorem markK_one {p mi : List Int} {k : Nat} {y : Int} (hy : mi[k]? = some y) (h : y = 1) : markK p mi k = markK p mi (k + 1) := by
  conv => rhs; unfold markK
  rw [if_neg (by rw [hy, h]; simp)]
/-- The reference's last write at a place. -/
def refT (p mi : List Int) (i : Int) (b : Tm) : Nat → Tm
  | 0 => b
  | k + 1 => if mi[k]? = some 2 ∧ p[k]? = some i then ⟨3, 2⟩ else if mi[k]? = some 2 ∧ p[k]? = some (i - 1) then ⟨1, 2⟩ else refT p mi i b k
theorem refT_mark (p mi : List Int) (i : Int) (b : Tm) : ∀ k, k ≤ p.length → refT p mi i b k = (mget i (markK p mi k)).getD b
  | 0, _ => rfl
  | k + 1, h => by
    obtain ⟨x, hx⟩ : ∃ x, p[k]? = some x := ⟨_, List.getElem?_eq_getElem (by omega)⟩
    have ih := refT_mark p mi i b k (by omega)
    unfold refT markK
    rw [getD_of hx, hx]
    by_cases h2 : mi[k]? = some 2
    · rw [if_pos h2, mget_mput, mget_mput]
      by_cases e1 : x = i
      · rw [if_pos ⟨h2, by rw [e1]⟩, if_neg (by omega), if_pos e1]; rfl
      · rw [if_neg (fun e => e1 (by injection e.2))]
        by_cases e2 : x + 1 = i
        · rw [if_pos ⟨h2, by congr 1; omega⟩, if_pos e2]; rfl
        · rw [if_neg (fun e => e2 (by have h3 := e.2; injection h3 with h3; omega)), if_neg e2, if_neg e1]; exact ih
    · rw [if_neg (fun e => h2 e.1), if_neg (fun e => h2 e.1), if_neg h2]; exact ih
theorem refT_A {p mi : List Int} {i x y : Int} {b : Tm} {k : Nat} (hx : p[k]? = some x) (hy : mi[k]? = some y) (h : y = 2 ∧ x = i) : ⟨3, 2⟩ = refT p mi i b (k + 1) := by
  conv => rhs; unfold refT
  rw [if_pos ⟨by rw [hy, h.1], by rw [hx, h.2]⟩]
theorem refT_B {p mi : List Int} {i x y : Int} {b : Tm} {k : Nat} (hx : p[k]? = some x) (hy : mi[k]? = some y) (h0 : ¬ y = 2 ∨ ¬ x = i) (h : y = 2 ∧ x = i - 1) : ⟨1, 2⟩ = refT p mi i b (k + 1) := by
  conv => rhs; unfold refT
  rw [if_neg (fun e => by rw [hy, hx] at e; have e1 := e.1; have e2 := e.2; injection e1; injection e2; omega), if_pos ⟨by rw [hy, h.1], by rw [hx, h.2]⟩]
theorem refT_C {p mi : List Int} {i x y : Int} {b : Tm} {k : Nat} (hx : p[k]? = some x) (hy : mi[k]? = some y) (h0 : ¬ y = 2 ∨ ¬ x = i) (h : ¬ y = 2 ∨ ¬ x = i - 1) : refT p mi i b k = refT p mi i b (k + 1) := by
  conv => rhs; unfold refT
  rw [if_neg (fun e => by rw [hy, hx] at e; have e1 := e.1; have e2 := e.2; injection e1; injection e2; omega), if_neg (fun e => by rw [hy, hx] at e; have e1 := e.1; have e2 := e.2; injection e1; injection e2; omega)]
theorem refT_0 (p mi : List Int) (i : Int) (b : Tm) : b = refT p mi i b 0 := rfl
/-- A sign's duration by itself. -/
def bsT (m : Mn) (s : Sg) : Tm := if clr s = true then durT m s.Value else fullT m s.Value
theorem bsT_c {m : Mn} {s : Sg} (h : clr s = true) : durT m s.Value = bsT m s := by unfold bsT; rw [if_pos h]
theorem bsT_n {m : Mn} {s : Sg} (h : clr s = false) : fullT m s.Value = bsT m s := by unfold bsT; rw [if_neg (by rw [h]; decide)]
def dvK (m : Mn) (l : List Sg) (M : List (Int × Tm)) : Nat → List Tm
  | 0 => []
  | k + 1 => match l[k]? with
    | some s => if s.Kind = 3 then dvK m l M k else dvK m l M k ++ [(mget (k : Int) M).getD (bsT m s)]
    | none => dvK m l M k
theorem dvK_dot {m : Mn} {l : List Sg} {M : List (Int × Tm)} {k : Nat} {s : Sg} (hs : l[k]? = some s) (h : s.Kind = 3) : dvK m l M k = dvK m l M (k + 1) := by
  conv => rhs; unfold dvK
  rw [hs]; simp only [if_pos h]
theorem dvK_nr {m : Mn} {l : List Sg} {M : List (Int × Tm)} {k : Nat} {s : Sg} (hs : l[k]? = some s) (h : ¬ s.Kind = 3) : dvK m l M k ++ [(mget (k : Int) M).getD (bsT m s)] = dvK m l M (k + 1) := by
  conv => rhs; unfold dvK
  rw [hs]; simp only [if_neg h]
theorem dvK_len (m : Mn) (l : List Sg) (M : List (Int × Tm)) : ∀ k, (dvK m l M k).length ≤ k
  | 0 => Nat.le_refl _
  | k + 1 => by
    have := dvK_len m l M k
    unfold dvK
    split
    · split
      · omega
      · simp; omega
    · omega
theorem get_is {M : List (Int × Tm)} {i : Int} {b z : Tm} (h : (mget i M).isSome = true) : (mget i M).getD z = (mget i M).getD b := by
  cases hm : mget i M with
  | none => rw [hm] at h; simp at h
  | some x => rfl
theorem get_no {M : List (Int × Tm)} {i : Int} {b : Tm} (h : (mget i M).isSome = false) : b = (mget i M).getD b := by
  cases hm : mget i M with
  | none => rfl
  | some x => rw [hm] at h; simp at h
/-- The fault, the durations. -/
def mnOk (mi : List Int) : Bool := mi.all fun x => decide (x = 1) || decide (x = 2)
def duE (m : Mn) (l : List Sg) (mi : List Int) : Int := if ckD m l = 0 then (if mi.length = (prL m l).length ∧ mnOk mi = true then 0 else 2) else ckD m l
def duM (m : Mn) (l : List Sg) (mi : List Int) : List (Int × Tm) := markK (prL m l) mi (prL m l).length
def duV (m : Mn) (l : List Sg) (mi : List Int) : List Tm := if duE m l mi = 0 then dvK m l (duM m l mi) l.length else []
theorem mnOk_bad {mi : List Int} {k : Nat} {y : Int} (hy : mi[k]? = some y) (h1 : ¬ y = 1) (h2 : ¬ y = 2) : mnOk mi = false := by
  cases h : mnOk mi with
  | false => rfl
  | true =>
    unfold mnOk at h
    have := List.all_eq_true.1 h y (List.mem_of_getElem? hy)
    simp [h1, h2] at this
theorem mnOk_all {mi : List Int} (h : ∀ (j : Nat) y, j < mi.length → mi[j]? = some y → y = 1 ∨ y = 2) : mnOk mi = true := by
  unfold mnOk
  rw [List.all_eq_true]
  intro y hy
  obtain ⟨j, hj⟩ := List.mem_iff_getElem?.1 hy
  have := h j y (List.getElem?_eq_some_iff.1 hj).1 hj
  simp [this]
/-- The first k meanings are well. -/
def mnK (mi : List Int) (k : Nat) : Prop := ∀ (j : Nat) y, j < k → mi[j]? = some y → y = 1 ∨ y = 2
theorem mnK_0 (mi : List Int) : mnK mi 0 := fun j y h => by omega
theorem mnK_s {mi : List Int} {k : Nat} {y : Int} (h : mnK mi k) (hy : mi[k]? = some y) (hv : y = 1 ∨ y = 2) : mnK mi (k + 1) := fun j z hj hz => by
  rcases Nat.lt_or_ge j k with h1 | h1
  · exact h j z h1 hz
  · have : j = k := by omega
    subst this; rw [hy] at hz; injection hz with hz; subst hz; exact hv
theorem mnK_ok {mi : List Int} (h : mnK mi mi.length) : mnOk mi = true := mnOk_all fun j y hj hy => h j y hj hy
theorem duE_0 {m : Mn} {l : List Sg} {mi : List Int} (h : ¬ ckD m l = 0) : ckD m l = duE m l mi := by unfold duE; rw [if_neg h]
theorem duE_1 {m : Mn} {l : List Sg} {mi : List Int} (h : ckD m l = 0) (h2 : ¬ mi.length = (prL m l).length) : 2 = duE m l mi := by unfold duE; rw [if_pos h, if_neg (fun e => h2 e.1)]
theorem duE_2 {m : Mn} {l : List Sg} {mi : List Int} (h : ckD m l = 0) (h2 : mnOk mi = false) : 2 = duE m l mi := by unfold duE; rw [if_pos h, if_neg (fun e => by rw [h2] at e; exact absurd e.2 (by decide))]
theorem duE_3 {m : Mn} {l : List Sg} {mi : List Int} (h : ckD m l = 0) (h1 : mi.length = (prL m l).length) (h2 : mnOk mi = true) : 0 = duE m l mi := by unfold duE; rw [if_pos h, if_pos ⟨h1, h2⟩]
theorem duV_n {m : Mn} {l : List Sg} {mi : List Int} {e : Int} (h : e = duE m l mi) (he : ¬ e = 0) : [] = duV m l mi := by unfold duV; rw [if_neg (by rw [← h]; exact he)]
theorem duV_y {m : Mn} {l : List Sg} {mi : List Int} (h : 0 = duE m l mi) : dvK m l (duM m l mi) l.length = duV m l mi := by unfold duV; rw [if_pos h.symm]
/-- The values of notes and rests of a valid run. -/
theorem ckFrom_val {m : Mn} {l : List Sg} (h : ckD m l = 0) {k : Nat} {s : Sg} (hs : l[k]? = some s) (h3 : ¬ s.Kind = 3) : ckM m = 0 ∧ 1 ≤ s.Value ∧ s.Value ≤ 8 := by
  have hm : ckM m = 0 := by
    unfold ckD at h; split at h
    · assumption
    · exact absurd h (by assumption)
  have hf : ckFrom m l 0 l = 0 := by unfold ckD at h; rw [if_pos hm] at h; exact h
  have hk : k < l.length := (List.getElem?_eq_some_iff.1 hs).1
  have hF := (ckFrom_all hf (k + 1) (by omega)).2 k s (by omega) hs
  unfold sgF at hF
  refine ⟨hm, ?_⟩
  split at hF
  · split at hF
    · assumption
    · omega
  · first | omega | (rw [if_neg h3] at hF; omega) | (split at hF <;> first | omega | contradiction)
theorem pairK_in {m : Mn} {l : List Sg} : ∀ (k : Nat) (x : Int), x ∈ pairK m l k → 0 ≤ x ∧ x < (k : Int)
  | 0, x, h => by unfold pairK at h; simp at h
  | k + 1, x, h => by
    unfold pairK at h
    split at h
    · rcases List.mem_append.1 h with h | h
      · have := pairK_in k x h; omega
      · simp at h; omega
    · have := pairK_in k x h; omega
theorem prL_in {m : Mn} {l : List Sg} {k : Nat} {x : Int} (h : (prL m l)[k]? = some x) : 0 ≤ x ∧ x < (l.length : Int) := by
  unfold prL at h
  split at h
  · unfold pairL at h; exact pairK_in _ x (List.mem_of_getElem? h)
  · simp at h
end Go.Rse
