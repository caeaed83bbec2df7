/-
  Plain: durations of items: what is not colored is in no pair; none is 0.
-/
import Derived.Test.YtmbjfeaipblfcaaGreatDoorItF0
namespace Go.Rse
open Go Go.Proofs
set_option linter.unusedVariables false
set_option linter.unusedSimpArgs false
theorem isPair_fact {m : Mn} {l : List Sg} {x : Int} (h : isPair m l x = true) : x + 1 < (l.length : Int) ∧ clr (l.getD x.toNat default) = true ∧ (l.getD x.toNat default).Value = 4 ∧ clr (l.getD (x + 1).toNat default) = true ∧ (l.getD (x + 1).toNat default).Value = 5 := by
  unfold isPair pairB at h
  simp only [Bool.and_eq_true, decide_eq_true_eq] at h
  obtain ⟨_, ⟨⟨⟨⟨⟨⟨h1, h2⟩, h3⟩, h4⟩, h5⟩, _⟩, _⟩, _⟩ := h
  exact ⟨h1, h2, h3, h4, h5⟩
theorem pairK_mem {m : Mn} {l : List Sg} : ∀ (k : Nat) (x : Int), x ∈ pairK m l k → isPair m l x = true ∧ 0 ≤ x ∧ x < (k : Int)
  | 0, x, h => by unfold pairK at h; simp at h
  | k + 1, x, h => by
    unfold pairK at h
    split at h
    · rename_i hp
      rcases List.mem_append.1 h with h | h
      · have := pairK_mem k x h; exact ⟨this.1, by omega, by omega⟩
      · simp at h; subst h; exact ⟨hp, by omega, by omega⟩
    · have := pairK_mem k x h; exact ⟨this.1, by omega, by omega⟩
theorem prL_mem {m : Mn} {l : List Sg} {x : Int} (h : x ∈ prL m l) : isPair m l x = true ∧ 0 ≤ x ∧ x < (l.length : Int) := by
  unfold prL at h
  split at h
  · unfold pairL at h; exact pairK_mem _ x h
  · simp at h
theorem dotsK_at {l : List Sg} {k : Nat} {s : Sg} (hs : l[k]? = some s) (h3 : s.Kind = 3) : ∀ n, k < n → (dotsK l n)[(dotsK l k).length]? = some (k : Int)
  | 0, h => by omega
  | n + 1, h => by
    rcases Nat.lt_or_ge k n with h1 | h1
    · have ih := dotsK_at hs h3 n h1
      have hl := (List.getElem?_eq_some_iff.1 ih).1
      rw [dotsK, List.getElem?_append, if_pos hl]; exact ih
    · have : k = n := by omega
      subst this
      rw [dotsK, List.getElem?_append, if_neg (by omega)]
      simp [hs, h3]
theorem markK_key (p mi : List Int) (q : Int) : ∀ k, mget q (markK p mi k) = none ∨ ∃ j, j < k ∧ (q = p.getD j 0 ∨ q = p.getD j 0 + 1)
  | 0 => .inl (by simp [markK, mget_nil])
  | k + 1 => by
    have ih := markK_key p mi q k
    unfold markK
    split
    · rw [mget_mput, mget_mput]
      by_cases h1 : p.getD k 0 + 1 = q
      · exact .inr ⟨k, by omega, .inr h1.symm⟩
      · by_cases h2 : p.getD k 0 = q
        · exact .inr ⟨k, by omega, .inl h2.symm⟩
        · rw [if_neg h1, if_neg h2]
          rcases ih with h | ⟨j, h3, h4⟩
          · exact .inl h
          · exact .inr ⟨j, by omega, h4⟩
    · rcases ih with h | ⟨j, h3, h4⟩
      · exact .inl h
      · exact .inr ⟨j, by omega, h4⟩
theorem mark_un {m : Mn} {l : List Sg} {mi : List Int} {k : Nat} {s : Sg} (hs : l[k]? = some s) (hc : clr s = false) : mget (k : Int) (duM m l mi) = none := by
  unfold duM
  rcases markK_key (prL m l) mi (k : Int) (prL m l).length with h | ⟨j, hj, h⟩
  · exact h
  · exfalso
    have hx : (prL m l)[j]? = some ((prL m l).getD j 0) := by rw [List.getD_eq_getElem?_getD, List.getElem?_eq_getElem hj]; rfl
    have hm := prL_mem (List.mem_of_getElem? hx)
    have hf := isPair_fact hm.1
    rcases h with h | h
    · have h2 := hf.2.1
      rw [← h, Int.toNat_natCast, getD_of hs, hc] at h2; cases h2
    · have h2 := hf.2.2.2.1
      rw [← h, Int.toNat_natCast, getD_of hs, hc] at h2; cases h2
def posOk (m : Mn) (v : Int) : Bool := decide (1 ≤ (fullT m v).N) && decide (1 ≤ (durT m v).N) && decide (1 ≤ (mulV (fullT m v) ⟨3, 2⟩).N) && decide (1 ≤ (mulV (durT m v) ⟨3, 2⟩).N)
theorem posOk_all : ckAll posOk = true := by kernel_rfl
theorem dur_pos {m : Mn} {s : Sg} {z : Tm} (hm : ckM m = 0) (h1 : 1 ≤ s.Value) (h8 : s.Value ≤ 8) (hz : z = bsT m s ∨ z = ⟨3, 2⟩ ∨ z = ⟨1, 2⟩) : 1 ≤ z.N ∧ 1 ≤ (mulV z ⟨3, 2⟩).N := by
  have h := ckAll_use posOk_all hm h1 h8
  unfold posOk at h
  simp only [Bool.and_eq_true, decide_eq_true_eq] at h
  rcases hz with rfl | rfl | rfl
  · unfold bsT; split
    · exact ⟨h.1.1.2, h.2⟩
    · exact ⟨h.1.1.1, h.1.2⟩
  · exact ⟨by decide, by decide +kernel⟩
  · exact ⟨by decide, by decide +kernel⟩
theorem mk_len {m : Mn} {l : List Sg} {ch : List Int} (h : mkE m l ch = 0) : (mnsD m l).length = ch.length ∧ chOk ch (mnsD m l) := by
  have hck := ck_mkE h
  unfold mkE at h
  rw [if_pos hck] at h
  split at h
  · assumption
  · cases h
/-- The dot of a rest never adds. -/
theorem rest_add {m : Mn} {l : List Sg} {ch : List Int} (h : mkE m l ch = 0) {k : Nat} {s : Sg} (hs : l[k]? = some s) (h2 : s.Kind = 2) : (afterK ch l l.length k).2 = false := by
  unfold afterK
  cases hz : l[k + 1]? with
  | none => rfl
  | some z =>
    simp only
    split
    · rename_i hd
      have hat := dotsK_at hz hd.2 l.length hd.1
      obtain ⟨e1, e2⟩ := mk_len h
      have hmn : (mnsD m l)[(dotsK l (k + 1)).length]? = some (mngs m s) := by
        unfold mnsD
        rw [List.getElem?_map, hat]
        show some (mnAt m l ((k + 1 : Nat) : Int)) = _
        unfold mnAt prevS
        rw [show (((k + 1 : Nat) : Int) - 1).toNat = k by omega, hs]
      have hlt := (List.getElem?_eq_some_iff.1 hmn).1
      obtain ⟨v, hv⟩ : ∃ v, ch[(dotsK l (k + 1)).length]? = some v := ⟨_, List.getElem?_eq_getElem (by omega)⟩
      have hmem := chOk_iff.1 e2 _ _ _ hmn hv
      unfold mngs at hmem
      rw [if_pos h2, coll_one] at hmem
      show decide (ch.getD (dotsK l (k + 1)).length 0 = 0) = false
      rw [getD_of hv]
      split at hmem
      · rename_i hp
        simp at hmem; subst hmem
        exact decide_eq_false (by omega)
      · simp at hmem
    · rfl
/-- An item by its number, of a run whose dots follow notes or rests. -/
theorem it_full {m : Mn} {l : List Sg} {ch mi : List Int} (h1 : mkE m l ch = 0) (h2 : duE m l mi = 0) (hD : ∀ (i : Nat) z, l[i]? = some z → z.Kind = 3 → ∃ (j : Nat) (p : Sg), i = j + 1 ∧ l[j]? = some p ∧ ¬ p.Kind = 3) {i : Nat} {x : Ite} (hx : (itmV m l ch mi)[i]? = some x) :
    ∃ (k : Nat) (s : Sg), l[k]? = some s ∧ ¬ s.Kind = 3 ∧ ntN l k = i ∧ x.Sign = (k : Int) ∧ x.Value = s.Value ∧ 1 ≤ s.Value ∧ s.Value ≤ 8 ∧ 1 ≤ x.Dur.N ∧ ((x.Fixed = false ∨ x.Rest = true) → x.Dur = fullT m s.Value) ∧ (s.Color = false → (∀ z, l[k + 1]? = some z → ¬ z.Kind = 3) → x.Dur = fullT m s.Value ∧ x.Fixed = x.Rest) := by
  rw [itmV_y (by unfold itmE; rw [if_pos h1, h2])] at hx
  obtain ⟨k, s, hk, hs, h3, hn, rfl⟩ := it_idx l.length hx
  subst hn
  obtain ⟨c, a, z, hc, ha, hz, -, -, hm, v1, v8, hzz⟩ := it_at h1 h2 hs h3
  rw [getD_of hc, getD_of ha, getD_of hz]
  have hat := mkK_at (ch := ch) hD l.length k s hk hs h3
  have hc2 : c = (afterK ch l l.length k).1 := by
    unfold mkC at hc; rw [if_pos h1, hat.1] at hc; injection hc with hc; exact hc.symm
  have ha2 : a = (afterK ch l l.length k).2 := by
    unfold mkA at ha; rw [if_pos h1, hat.2] at ha; injection ha with ha; exact ha.symm
  have hz2 : z = (mget (k : Int) (duM m l mi)).getD (bsT m s) := by
    unfold duV at hz; rw [if_pos h2, dvK_get hs h3 l.length hk] at hz; injection hz with hz; exact hz.symm
  have hun : clr s = false → z = fullT m s.Value := fun h => by
    rw [hz2, mark_un hs h]; show bsT m s = _
    unfold bsT; rw [if_neg (by rw [h]; decide)]
  have hp := dur_pos hm v1 v8 hzz
  refine ⟨k, s, hs, h3, rfl, rfl, rfl, v1, v8, ?_, fun h => ?_, fun hcol hnd => ?_⟩
  · show 1 ≤ (if a = true then mulV z ⟨3, 2⟩ else z).N
    split
    · exact hp.2
    · exact hp.1
  · show (if a = true then mulV z ⟨3, 2⟩ else z) = _
    rcases h with h | h
    · have h : (a || decide (s.Kind = 2) || clr s || decide (c = s.Value)) = false := h
      simp only [Bool.or_eq_false_iff] at h
      rw [if_neg (by rw [h.1.1.1]; decide)]; exact hun h.1.2
    · have h : decide (s.Kind = 2) = true := h
      have h := of_decide_eq_true h
      rw [ha2, rest_add h1 hs h, if_neg (by decide)]
      exact hun (by unfold clr; rw [h]; rfl)
  · have hcl : clr s = false := by unfold clr; rw [hcol]; simp
    have haf : afterK ch l l.length k = (0, false) := by
      unfold afterK
      cases hq : l[k + 1]? with
      | none => rfl
      | some z => simp only; rw [if_neg (fun e => hnd z hq e.2)]
    rw [haf] at hc2 ha2
    subst hc2 ha2
    constructor
    · show (if false = true then mulV z ⟨3, 2⟩ else z) = _
      rw [if_neg (by decide)]; exact hun hcl
    · show (false || decide (s.Kind = 2) || clr s || decide ((0 : Int) = s.Value)) = decide (s.Kind = 2)
      rw [hcl, decide_eq_false (show ¬ (0 : Int) = s.Value by omega)]; simp
/-- No dots and no color among the first k signs. -/
def plnK (l : List Sg) : Nat → Bool
  | 0 => true
  | k + 1 => match l[k]? with
    | some s => plnK l k && decide (¬ s.Kind = 3) && !s.Color
    | none => plnK l k
theorem plnK_s {l : List Sg} {k : Nat} {s : Sg} (hs : l[k]? = some s) : plnK l (k + 1) = (plnK l k && decide (¬ s.Kind = 3) && !s.Color) := by
  simp only [plnK, hs]
theorem plnK_at {l : List Sg} : ∀ (n : Nat), plnK l n = true → ∀ (k : Nat) s, k < n → l[k]? = some s → ¬ s.Kind = 3 ∧ s.Color = false
  | 0, _, k, s, h, _ => by omega
  | n + 1, h, k, s, hk, hs => by
    by_cases e : k = n
    · subst e
      rw [plnK_s hs] at h
      simpa [and_assoc] using (show (decide (¬ s.Kind = 3) && !s.Color) = true by
        rw [Bool.and_assoc, Bool.and_eq_true] at h; exact h.2)
    · refine plnK_at n ?_ k s (by omega) hs
      unfold plnK at h
      split at h
      · rw [Bool.and_assoc, Bool.and_eq_true] at h; exact h.1
      · exact h
theorem pln_ict {m : Mn} {l : List Sg} (hck : ckD m l = 0) (h : plnK l l.length = true) : ictE m l = 0 ∧ ictV m l = 1 := by
  have hat := plnK_at l.length h
  have hd : dotsK l l.length = [] := by
    refine List.eq_nil_iff_forall_not_mem.2 fun x hx => ?_
    obtain ⟨j, s, _, hj, h3⟩ := dotsK_kind l.length x hx
    exact (hat j s (List.getElem?_eq_some_iff.1 hj).1 hj).1 h3
  have hp : prL m l = [] := by
    refine List.eq_nil_iff_forall_not_mem.2 fun x hx => ?_
    have hm := prL_mem hx
    have hf := (isPair_fact hm.1).2.1
    obtain ⟨s, hs⟩ : ∃ s, l[x.toNat]? = some s := ⟨_, List.getElem?_eq_getElem (by omega)⟩
    rw [getD_of hs] at hf
    have := (hat _ s (List.getElem?_eq_some_iff.1 hs).1 hs).2
    unfold clr at hf; rw [this] at hf; simp at hf
  have hk : kL m l = [] := by unfold kL mnsD; rw [hd, hp]; rfl
  have hl := ict_law hck
  rw [hk] at hl
  exact ⟨hl.1.trans (by decide), hl.2.trans (by decide)⟩
end Go.Rse
