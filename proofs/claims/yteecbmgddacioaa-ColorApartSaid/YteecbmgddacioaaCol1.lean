/-
  Plain: pairs of minor color are apart; durations at pairs; other values of uncolored notes; lists of meanings by number.
-/
import Derived.Test.YteecbmgddacioaaRun0
namespace Go.Rse
open Go Go.Proofs
set_option linter.unusedVariables false
set_option linter.unusedSimpArgs false
theorem isPair_fact {m : Mn} {l : List Sg} {x : Int} (h : isPair m l x = true) : x + 1 < (l.length : Int) ∧ clr (l.getD x.toNat default) = true ∧ (l.getD x.toNat default).Value = 4 ∧ clr (l.getD (x + 1).toNat default) = true ∧ (l.getD (x + 1).toNat default).Value = 5 := by
  unfold isPair pairB at h
  simp only [Bool.and_eq_true, decide_eq_true_eq] at h
  obtain ⟨_, ⟨⟨⟨⟨⟨⟨h1, h2⟩, h3⟩, h4⟩, h5⟩, _⟩, _⟩, _⟩ := h
  exact ⟨h1, h2, h3, h4, h5⟩
theorem pairK_mem {m : Mn} {l : List Sg} : ∀ (k : Nat) (x : Int), x ∈ pairK m l k → isPair m l x = true ∧ 0 ≤ x ∧ x < (k : Int)
  | 0, x, h => by unfold pairK at h; simp at h
  | k + 1, x, h => by
    unfold pairK at h
    split at h
    · rename_i hp
      rcases List.mem_append.1 h with h | h
      · have := pairK_mem k x h; exact ⟨this.1, by omega, by omega⟩
      · simp at h; subst h; exact ⟨hp, by omega, by omega⟩
    · have := pairK_mem k x h; exact ⟨this.1, by omega, by omega⟩
theorem pairK_inc {m : Mn} {l : List Sg} : ∀ k, (pairK m l k).Pairwise (· < ·)
  | 0 => by unfold pairK; exact .nil
  | k + 1 => by
    unfold pairK
    split
    · refine List.pairwise_append.2 ⟨pairK_inc k, by simp, fun a ha b hb => ?_⟩
      simp at hb; subst hb; exact (pairK_mem k a ha).2.2
    · exact pairK_inc k
theorem prL_mem {m : Mn} {l : List Sg} {x : Int} (h : x ∈ prL m l) : isPair m l x = true ∧ 0 ≤ x ∧ x < (l.length : Int) := by
  unfold prL at h
  split at h
  · unfold pairL at h; exact pairK_mem _ x h
  · simp at h
theorem pair_apart {m : Mn} {l : List Sg} {x y : Int} (hx : isPair m l x = true) (hy : isPair m l y = true) : x ≠ y + 1 := fun e => by
  subst e
  have a := (isPair_fact hx).2.2.1
  have b := (isPair_fact hy).2.2.2.2
  rw [b] at a; exact absurd a (by decide)
theorem prL_step {m : Mn} {l : List Sg} {i : Nat} {x y : Int} (hx : (prL m l)[i]? = some x) (hy : (prL m l)[i + 1]? = some y) : x + 2 ≤ y := by
  have h1 := prL_mem (List.mem_of_getElem? hx)
  have h2 := prL_mem (List.mem_of_getElem? hy)
  have h3 := pair_apart h2.1 h1.1
  have hinc : (prL m l).Pairwise (· < ·) := by
    unfold prL; split
    · unfold pairL; exact pairK_inc _
    · exact .nil
  obtain ⟨hi, ex⟩ := List.getElem?_eq_some_iff.1 hx
  obtain ⟨hj, ey⟩ := List.getElem?_eq_some_iff.1 hy
  have := List.pairwise_iff_getElem.1 hinc i (i + 1) hi hj (by omega)
  rw [ex, ey] at this; omega
theorem mark_at {p mi : List Int} (hm : ∀ k, k < p.length → mi[k]? = some 2) (hap : ∀ a, a ∈ p → ∀ b, b ∈ p → a ≠ b + 1) : ∀ k, k ≤ p.length → ∀ (j : Nat) x, j < k → p[j]? = some x → mget x (markK p mi k) = some ⟨3, 2⟩ ∧ mget (x + 1) (markK p mi k) = some ⟨1, 2⟩
  | 0, _, j, x, hj, _ => by omega
  | k + 1, hk, j, x, hj, hx => by
    obtain ⟨y, hy⟩ : ∃ y, p[k]? = some y := ⟨_, List.getElem?_eq_getElem (by omega)⟩
    rw [← markK_two hy (hm k (by omega)) rfl]
    have h1 := hap x (List.mem_of_getElem? hx) y (List.mem_of_getElem? hy)
    have h2 := hap y (List.mem_of_getElem? hy) x (List.mem_of_getElem? hx)
    rw [mget_mput, mget_mput, mget_mput, mget_mput]
    by_cases e : y = x
    · rw [if_neg (by omega), if_pos e, if_pos (by omega)]; exact ⟨rfl, rfl⟩
    · have hjk : j < k := by
        rcases Nat.lt_or_ge j k with h | h
        · exact h
        · have : j = k := by omega
          subst this; rw [hy] at hx; injection hx with hx; exact absurd hx e
      rw [if_neg (by omega), if_neg e, if_neg (by omega), if_neg (by omega)]
      exact mark_at hm hap k (by omega) j x hjk hx
/-- The notes and rests ahead of a place. -/
def noK (l : List Sg) : Nat → Nat
  | 0 => 0
  | k + 1 => match l[k]? with
    | some s => if s.Kind = 3 then noK l k else noK l k + 1
    | none => noK l k
theorem noK_dot {l : List Sg} {k : Nat} {s : Sg} (hs : l[k]? = some s) (h : s.Kind = 3) : noK l (k + 1) = noK l k := by
  conv => lhs; unfold noK
  rw [hs]; simp only [if_pos h]
theorem noK_nr {l : List Sg} {k : Nat} {s : Sg} (hs : l[k]? = some s) (h : ¬ s.Kind = 3) : noK l (k + 1) = noK l k + 1 := by
  conv => lhs; unfold noK
  rw [hs]; simp only [if_neg h]
theorem noK_le (l : List Sg) : ∀ k, noK l k ≤ k
  | 0 => Nat.le_refl _
  | k + 1 => by
    have := noK_le l k
    unfold noK
    split
    · split <;> omega
    · omega
theorem dvK_no (m : Mn) (l : List Sg) (M : List (Int × Tm)) : ∀ k, (dvK m l M k).length = noK l k
  | 0 => rfl
  | k + 1 => by
    have ih := dvK_no m l M k
    cases hs : l[k]? with
    | none => simp only [dvK, noK, hs]; exact ih
    | some s =>
      by_cases h : s.Kind = 3
      · simp only [dvK, noK, hs, if_pos h]; exact ih
      · simp only [dvK, noK, hs, if_neg h]; simp [ih]
theorem dvK_pre {m : Mn} {l : List Sg} {M : List (Int × Tm)} (k : Nat) : ∀ d, ∃ r, dvK m l M (k + d) = dvK m l M k ++ r
  | 0 => ⟨[], by simp⟩
  | d + 1 => by
    obtain ⟨r, hr⟩ := dvK_pre (m := m) (l := l) (M := M) k d
    show ∃ r, dvK m l M ((k + d) + 1) = _
    cases hs : l[k + d]? with
    | none => simp only [dvK, hs]; exact ⟨r, hr⟩
    | some s =>
      by_cases h : s.Kind = 3
      · rw [← dvK_dot hs h]; exact ⟨r, hr⟩
      · rw [← dvK_nr hs h, hr]; exact ⟨r ++ [_], by rw [List.append_assoc]⟩
theorem dvK_at {m : Mn} {l : List Sg} {M : List (Int × Tm)} {k n : Nat} {s : Sg} (hs : l[k]? = some s) (h3 : ¬ s.Kind = 3) (hn : k < n) : (dvK m l M n)[noK l k]? = some ((mget (k : Int) M).getD (bsT m s)) := by
  obtain ⟨r, hr⟩ := dvK_pre (m := m) (l := l) (M := M) (k + 1) (n - (k + 1))
  rw [show k + 1 + (n - (k + 1)) = n by omega, ← dvK_nr hs h3] at hr
  rw [hr, ← dvK_no m l M k]; simp
theorem clr_kind {s : Sg} (h : clr s = true) : s.Kind = 1 := by unfold clr at h; simp at h; exact h.1
/-- What a run with Dotted pairs has at a pair. -/
theorem apart_at {m : Mn} {l : List Sg} {i : Nat} {x : Int} (hc : ckD m l = 0) (hx : (prL m l)[i]? = some x) :
    (duV m l (twos (prL m l).length))[noK l x.toNat]? = some ⟨3, 2⟩ ∧ (duV m l (twos (prL m l).length))[noK l x.toNat + 1]? = some ⟨1, 2⟩ := by
  have hmi : ∀ k, k < (prL m l).length → (twos (prL m l).length)[k]? = some 2 := fun k hk => by unfold twos; rw [List.getElem?_replicate, if_pos hk]
  have hok : mnOk (twos (prL m l).length) = true := mnOk_all fun j y hj hy => by
    rw [twos_len] at hj; rw [hmi j hj] at hy; injection hy with hy; exact .inr hy.symm
  have hE : 0 = duE m l (twos (prL m l).length) := duE_3 hc (by rw [twos_len]) hok
  rw [← duV_y hE]
  have hm := prL_mem (List.mem_of_getElem? hx)
  have hf := isPair_fact hm.1
  have hM := mark_at (p := prL m l) (mi := twos (prL m l).length) hmi (fun a ha b hb => pair_apart (prL_mem ha).1 (prL_mem hb).1) (prL m l).length (Nat.le_refl _) i x (List.getElem?_eq_some_iff.1 hx).1 hx
  have g : ∀ k : Nat, k < l.length → l[k]? = some (l.getD k default) := fun k hk => by rw [List.getD_eq_getElem?_getD, List.getElem?_eq_getElem hk]; rfl
  have hs1 := g x.toNat (by omega)
  have hs2 := g (x.toNat + 1) (by omega)
  have e1 : (x + 1).toNat = x.toNat + 1 := by omega
  rw [e1] at hf
  have k1 := clr_kind hf.2.1
  have k2 := clr_kind hf.2.2.2.1
  have a1 := dvK_at (m := m) (M := duM m l (twos (prL m l).length)) hs1 (by omega) (show x.toNat < l.length by omega)
  have a2 := dvK_at (m := m) (M := duM m l (twos (prL m l).length)) hs2 (by omega) (show x.toNat + 1 < l.length by omega)
  rw [noK_nr hs1 (by omega)] at a2
  rw [a1, a2, show (x.toNat : Int) = x by omega, show ((x.toNat + 1 : Nat) : Int) = x + 1 by omega]
  unfold duM
  rw [hM.1, hM.2]; exact ⟨rfl, rfl⟩
/-- Signs that differ in the values of uncolored notes alone. -/
structure Sim (s s' : Sg) : Prop where
  k : s'.Kind = s.Kind
  c : s'.Color = s.Color
  v : clr s = true → s'.Value = s.Value
theorem Sim.refl (s : Sg) : Sim s s := ⟨rfl, rfl, fun _ => rfl⟩
theorem Sim.clr {s s' : Sg} (h : Sim s s') : Rse.clr s' = Rse.clr s := by unfold Rse.clr; rw [h.k, h.c]
def SimL (l l' : List Sg) : Prop := l'.length = l.length ∧ ∀ i : Nat, Sim (l.getD i default) (l'.getD i default)
theorem near_sim {l l' : List Sg} (h : SimL l l') (b : Int) : ∀ (n : Nat) (i : Int), frB (nearA l' b n i) = frB (nearA l b n i)
  | 0, i => rfl
  | n + 1, i => by
    have hi := h.2 i.toNat
    unfold nearA
    rw [h.1, hi.k]
    split
    · split
      · exact near_sim h b n _
      · show (!Rse.clr _) = !Rse.clr _
        rw [hi.clr]
    · rfl
theorem pairB_sim {l l' : List Sg} (h : SimL l l') (i : Int) : pairB l' i = pairB l i := by
  have h1 := h.2 i.toNat
  have h2 := h.2 (i + 1).toNat
  have h3 := h.2 (i + 2).toNat
  unfold pairB nearF
  rw [near_sim h, near_sim h, h.1, h1.clr, h2.clr, h3.k]
  cases c1 : Rse.clr (l.getD i.toNat default) with
  | false => simp
  | true =>
    cases c2 : Rse.clr (l.getD (i + 1).toNat default) with
    | false => simp
    | true => rw [h1.v c1, h2.v c2]
theorem pairK_sim {m : Mn} {l l' : List Sg} (h : SimL l l') : ∀ k, pairK m l' k = pairK m l k
  | 0 => rfl
  | k + 1 => by
    unfold pairK
    rw [pairK_sim h k]
    unfold isPair
    rw [pairB_sim h]
theorem prL_sim {m : Mn} {l l' : List Sg} (h : SimL l l') (hc : ckD m l = 0) (hc' : ckD m l' = 0) : prL m l' = prL m l := by
  unfold prL pairL
  rw [if_pos hc, if_pos hc', h.1, pairK_sim h]
def nuS (s : Sg) (v : Int) : Sg := { s with Value := v }
/-- The run with other values at the uncolored notes among the first k signs. -/
def nuK (l : List Sg) (o : List Int) : Nat → List Sg
  | 0 => l
  | k + 1 => match l[k]? with
    | some s => if s.Kind = 1 ∧ s.Color = false then (nuK l o k).set k (nuS s (1 + atV o (k : Int) % 8)) else nuK l o k
    | none => nuK l o k
theorem nuK_len (l : List Sg) (o : List Int) : ∀ k, (nuK l o k).length = l.length
  | 0 => rfl
  | k + 1 => by
    unfold nuK
    split
    · split
      · rw [List.length_set, nuK_len l o k]
      · exact nuK_len l o k
    · exact nuK_len l o k
theorem nuK_ge (l : List Sg) (o : List Int) : ∀ (k j : Nat), k ≤ j → (nuK l o k)[j]? = l[j]?
  | 0, j, _ => rfl
  | k + 1, j, h => by
    unfold nuK
    split
    · split
      · rw [List.getElem?_set_ne (by omega), nuK_ge l o k j (by omega)]
      · exact nuK_ge l o k j (by omega)
    · exact nuK_ge l o k j (by omega)
theorem nuK_yes {l : List Sg} {o : List Int} {k : Nat} {s : Sg} (hs : l[k]? = some s) (h : s.Kind = 1 ∧ s.Color = false) : (nuK l o k).set k (nuS s (1 + atV o (k : Int) % 8)) = nuK l o (k + 1) := by
  conv => rhs; unfold nuK
  rw [hs]; simp only [if_pos h]
theorem nuK_no {l : List Sg} {o : List Int} {k : Nat} {s : Sg} (hs : l[k]? = some s) (h : ¬ s.Kind = 1 ∨ s.Color = true) : nuK l o k = nuK l o (k + 1) := by
  conv => rhs; unfold nuK
  rw [hs]; simp only
  rw [if_neg (fun e => by
    rcases h with h | h
    · exact h e.1
    · rw [e.2] at h; exact absurd h (by decide))]
theorem nuK_spec (l : List Sg) (o : List Int) : ∀ (k j : Nat) (s : Sg), l[j]? = some s → ∃ s', (nuK l o k)[j]? = some s' ∧ (s' = s ∨ (s.Kind = 1 ∧ s.Color = false ∧ ∃ v, 1 ≤ v ∧ v ≤ 8 ∧ s' = nuS s v))
  | 0, j, s, h => ⟨s, h, .inl rfl⟩
  | k + 1, j, s, h => by
    have ih := nuK_spec l o k j s h
    unfold nuK
    split
    · rename_i t ht
      split
      · rename_i hc
        by_cases e : k = j
        · subst e
          rw [h] at ht; injection ht with ht; subst ht
          refine ⟨nuS s (1 + atV o (k : Int) % 8), ?_, .inr ⟨hc.1, hc.2, _, by omega, by omega, rfl⟩⟩
          rw [List.getElem?_set_self (by rw [nuK_len]; exact (List.getElem?_eq_some_iff.1 h).1)]
        · rw [List.getElem?_set_ne e]; exact ih
      · exact ih
    · exact ih
theorem nuK_sim (l : List Sg) (o : List Int) (k : Nat) : SimL l (nuK l o k) := by
  refine ⟨nuK_len l o k, fun i => ?_⟩
  rcases Nat.lt_or_ge i l.length with h | h
  · obtain ⟨s', h1, h2⟩ := nuK_spec l o k i _ (List.getElem?_eq_getElem h)
    rw [List.getD_eq_getElem?_getD, List.getD_eq_getElem?_getD, h1, List.getElem?_eq_getElem h]
    show Sim l[i] s'
    rcases h2 with h2 | ⟨a, b, v, _, _, h2⟩
    · rw [h2]; exact Sim.refl _
    · rw [h2]
      refine ⟨rfl, rfl, fun e => ?_⟩
      unfold Rse.clr at e; rw [b] at e; simp at e
  · rw [List.getD_eq_getElem?_getD, List.getD_eq_getElem?_getD, List.getElem?_eq_none h, List.getElem?_eq_none (by rw [nuK_len]; exact h)]
    exact Sim.refl _
theorem nuK_gr {m : Mn} {l : List Sg} (o : List Int) (k : Nat) (h : Gr m l) : Gr m (nuK l o k) := fun i s' hs' => by
  have hi : i < l.length := by have := (List.getElem?_eq_some_iff.1 hs').1; rw [nuK_len] at this; exact this
  obtain ⟨s'', h1, h2⟩ := nuK_spec l o k i _ (List.getElem?_eq_getElem hi)
  rw [h1] at hs'; injection hs' with hs'; subst hs'
  rcases h2 with h2 | ⟨a, b, v, v1, v2, h2⟩
  · rw [h2]
    rcases h i _ (List.getElem?_eq_getElem hi) with h3 | ⟨h3, j, p, h4, h5, h6⟩
    · exact .inl h3
    · refine .inr ⟨h3, j, ?_⟩
      obtain ⟨p', g1, g2⟩ := nuK_spec l o k j p h5
      refine ⟨p', h4, g1, ?_⟩
      rcases g2 with g2 | ⟨c, _, _, _, _, g2⟩
      · rw [g2]; exact h6
      · rw [g2]; exact .inl c
  · rw [h2]; exact .inl ⟨.inl a, v1, v2⟩
def unD (l : List Int) : Int := l.foldl (fun a d => 2 * a + (d - 1)) 0
theorem dig_tab : ∀ K : Fin 7, ∀ n : Fin 64, (n.val : Int) < 2 ^ K.val → unD (digP (n.val : Int) K.val K.val) = (n.val : Int) := by decide +kernel
theorem dig_top : ∀ K : Fin 7, digP (2 ^ K.val - 1) K.val K.val = twos K.val := by decide +kernel
theorem digP_iff {K : Nat} (hK : K ≤ 6) {i k : Int} (hi : 0 ≤ i ∧ i < 2 ^ K) (hk : 0 ≤ k ∧ k < 2 ^ K) : digP i K K = digP k K K ↔ i = k := by
  have hb := pow2_tab hK
  constructor
  · intro e
    have a := dig_tab ⟨K, by omega⟩ ⟨i.toNat, by omega⟩
    have b := dig_tab ⟨K, by omega⟩ ⟨k.toNat, by omega⟩
    simp only [show (i.toNat : Int) = i by omega, show (k.toNat : Int) = k by omega] at a b
    rw [← a hi.2, ← b hk.2, e]
  · intro e; rw [e]
theorem digP_top {K : Nat} (hK : K ≤ 6) : digP (2 ^ K - 1) K K = twos K := dig_top ⟨K, by omega⟩
def thOk (m : Mn) (v : Int) : Bool := decide (mulE (durT m v) ⟨3, 1⟩ = 0) && decide (mulE (fullT m v) ⟨2, 1⟩ = 0) && decide (firstT [mulV (durT m v) ⟨3, 1⟩, mulV (fullT m v) ⟨2, 1⟩] = 0) && decide (firstT [durT m v, fullT m v] = 0) &&
  decide (0 ≤ cmpV (mulV (durT m v) ⟨3, 1⟩) (mulV (fullT m v) ⟨2, 1⟩)) && decide (cmpV (durT m v) (fullT m v) ≤ 0) && (((!decide (m = mHalf)) && !(decide (v ≤ 4) && decide (m.p v = 3))) || decide (cmpV (mulV (durT m v) ⟨3, 1⟩) (mulV (fullT m v) ⟨2, 1⟩) = 0))
theorem thOk_all : ckAll thOk = true := by kernel_rfl
theorem th_facts {m : Mn} {v : Int} (hm : ckM m = 0) (h1 : 1 ≤ v) (h8 : v ≤ 8) : mulE (durT m v) ⟨3, 1⟩ = 0 ∧ mulE (fullT m v) ⟨2, 1⟩ = 0 ∧ firstT [mulV (durT m v) ⟨3, 1⟩, mulV (fullT m v) ⟨2, 1⟩] = 0 ∧ firstT [durT m v, fullT m v] = 0 ∧
    0 ≤ cmpV (mulV (durT m v) ⟨3, 1⟩) (mulV (fullT m v) ⟨2, 1⟩) ∧ cmpV (durT m v) (fullT m v) ≤ 0 ∧ (((!decide (m = mHalf)) && !(decide (v ≤ 4) && decide (m.p v = 3))) || decide (cmpV (mulV (durT m v) ⟨3, 1⟩) (mulV (fullT m v) ⟨2, 1⟩) = 0)) = true := by
  have h := ckAll_use thOk_all hm h1 h8
  unfold thOk at h
  simp only [Bool.and_eq_true, decide_eq_true_eq] at h
  obtain ⟨⟨⟨⟨⟨⟨a, b⟩, c⟩, d⟩, e⟩, f⟩, g⟩ := h
  exact ⟨a, b, c, d, e, f, g⟩
end Go.Rse
