/-
  Plain: what another meaning changes: items by their signs, pairs by their items.
-/
import Derived.Test.YtmbjfeaipblfcaaGreatDoorTItF1
namespace Go.Rse
open Go Go.Proofs
set_option linter.unusedVariables false
set_option linter.unusedSimpArgs false
theorem pair_ap {m : Mn} {l : List Sg} {x y : Int} (hx : isPair m l x = true) (hy : isPair m l y = true) : x ≠ y + 1 := fun e => by
  subst e
  have a := (isPair_fact hx).2.2.1
  have b := (isPair_fact hy).2.2.2.2
  rw [b] at a; exact absurd a (by decide)
theorem pairK_in2 {m : Mn} {l : List Sg} : ∀ k, (pairK m l k).Pairwise (fun a b => a + 1 < b)
  | 0 => by unfold pairK; exact .nil
  | k + 1 => by
    unfold pairK
    split
    · rename_i hp
      refine List.pairwise_append.2 ⟨pairK_in2 k, by simp, fun a ha b hb => ?_⟩
      simp at hb; subst hb
      have h1 := pairK_mem k a ha
      have h2 := pair_ap hp h1.1
      omega
    · exact pairK_in2 k
theorem pairK_at {m : Mn} {l : List Sg} {k : Nat} (h : isPair m l (k : Int) = true) : ∀ n, k < n → (pairK m l n)[(pairK m l k).length]? = some (k : Int)
  | 0, hn => by omega
  | n + 1, hn => by
    rcases Nat.lt_or_ge k n with h1 | h1
    · have ih := pairK_at h n h1
      have hl := (List.getElem?_eq_some_iff.1 ih).1
      cases hn1 : isPair m l (n : Int) with
      | true => rw [← pairK_yes hn1, List.getElem?_append, if_pos hl]; exact ih
      | false => rw [← pairK_no hn1]; exact ih
    · have : k = n := by omega
      subst this
      rw [← pairK_yes h]; simp
theorem mark_pr {p mi : List Int} (hp : p.Pairwise (fun a b => a + 1 < b)) : ∀ k, k ≤ p.length → ∀ (j : Nat) x, j < k → p[j]? = some x →
    mget x (markK p mi k) = (if mi[j]? = some 2 then some ⟨3, 2⟩ else none) ∧ mget (x + 1) (markK p mi k) = (if mi[j]? = some 2 then some ⟨1, 2⟩ else none)
  | 0, _, j, x, hj, _ => by omega
  | k + 1, hk, j, x, hj, hx => by
    obtain ⟨y, hy⟩ : ∃ y, p[k]? = some y := ⟨_, List.getElem?_eq_getElem (by omega)⟩
    have gap : ∀ (i : Nat), i < k → p.getD i 0 + 1 < y := fun i hi => by
      have h1 := List.pairwise_iff_getElem.1 hp i k (by omega) (by omega) hi
      obtain ⟨_, e⟩ := List.getElem?_eq_some_iff.1 hy
      rw [e] at h1
      rw [getD_of (List.getElem?_eq_getElem (show i < p.length by omega))]; exact h1
    by_cases hjk : j = k
    · subst hjk
      rw [hy] at hx; injection hx with hx; subst hx
      unfold markK
      rw [getD_of hy]
      split
      · rw [mget_mput, mget_mput, mget_mput, if_neg (by omega), if_pos rfl, if_pos rfl]; exact ⟨rfl, rfl⟩
      · constructor
        · rcases markK_key p mi y j with h | ⟨i, h1, h2⟩
          · exact h
          · have := gap i h1; omega
        · rcases markK_key p mi (y + 1) j with h | ⟨i, h1, h2⟩
          · exact h
          · have := gap i h1; omega
    · have ih := mark_pr (mi := mi) hp k (by omega) j x (by omega) hx
      have g := gap j (by omega)
      rw [getD_of hx] at g
      unfold markK
      rw [getD_of hy]
      split
      · have n1 : ¬ y + 1 = x := by omega
        have n2 : ¬ y = x := by omega
        have n3 : ¬ y + 1 = x + 1 := by omega
        have n4 : ¬ y = x + 1 := by omega
        simp only [mget_mput, if_neg n1, if_neg n2, if_neg n3, if_neg n4]; exact ih
      · exact ih
/-- A place that is in no pair. -/
theorem mark_no {m : Mn} {l : List Sg} {mi : List Int} {k : Nat} (h1 : isPair m l (k : Int) = false) (h2 : ∀ j : Nat, j + 1 = k → isPair m l (j : Int) = false) : mget (k : Int) (duM m l mi) = none := by
  unfold duM
  rcases markK_key (prL m l) mi (k : Int) (prL m l).length with h | ⟨j, hj, h⟩
  · exact h
  · exfalso
    have hx : (prL m l)[j]? = some ((prL m l).getD j 0) := by rw [List.getD_eq_getElem?_getD, List.getElem?_eq_getElem hj]; rfl
    have hm := prL_mem (List.mem_of_getElem? hx)
    rcases h with h | h
    · rw [← h, h1] at hm; cases hm.1
    · have h3 := h2 ((prL m l).getD j 0).toNat (by omega)
      rw [show ((((prL m l).getD j 0).toNat : Nat) : Int) = (prL m l).getD j 0 by omega, hm.1] at h3; cases h3
theorem nt_inj {l : List Sg} {k j : Nat} {s t : Sg} (hs : l[k]? = some s) (h : ¬ s.Kind = 3) (ht : l[j]? = some t) (h' : ¬ t.Kind = 3) (e : ntN l k = ntN l j) : k = j := by
  rcases Nat.lt_trichotomy k j with h1 | h1 | h1
  · have := nt_strict hs h h1; omega
  · exact h1
  · have := nt_strict ht h' h1; omega
/-- An item by its sign. -/
def iTM (m : Mn) (l : List Sg) (ch mi : List Int) (k : Nat) (s : Sg) : Ite := itOf k s (afterK ch l l.length k).1 (afterK ch l l.length k).2 ((mget (k : Int) (duM m l mi)).getD (bsT m s))
abbrev DotsOk (l : List Sg) : Prop := ∀ (i : Nat) z, l[i]? = some z → z.Kind = 3 → ∃ (j : Nat) (p : Sg), i = j + 1 ∧ l[j]? = some p ∧ ¬ p.Kind = 3
theorem itm_len {m : Mn} {l : List Sg} {ch mi : List Int} (h1 : mkE m l ch = 0) (h2 : duE m l mi = 0) : (itmV m l ch mi).length = ntN l l.length := by
  rw [itmV_y (by unfold itmE; rw [if_pos h1, h2]), itK_nt]
theorem it_get {m : Mn} {l : List Sg} {ch mi : List Int} (h1 : mkE m l ch = 0) (h2 : duE m l mi = 0) (hD : DotsOk l) {k : Nat} {s : Sg} (hs : l[k]? = some s) (h3 : ¬ s.Kind = 3) : (itmV m l ch mi)[ntN l k]? = some (iTM m l ch mi k s) := by
  have hk := (List.getElem?_eq_some_iff.1 hs).1
  have hlt := nt_strict hs h3 hk
  obtain ⟨x, hx⟩ : ∃ x, (itmV m l ch mi)[ntN l k]? = some x := ⟨_, List.getElem?_eq_getElem (by rw [itm_len h1 h2]; exact hlt)⟩
  have hx' := hx
  rw [itmV_y (by unfold itmE; rw [if_pos h1, h2])] at hx
  obtain ⟨j, t, hj, ht, h4, hn, rfl⟩ := it_idx l.length hx
  obtain rfl := nt_inj ht h4 hs h3 hn
  rw [hs] at ht; injection ht with ht; subst ht
  rw [hx']; unfold iTM
  have hat := mkK_at (ch := ch) hD l.length j s hk hs h3
  have hc : (mkC m l ch).getD (ntN l j) 0 = (afterK ch l l.length j).1 := getD_of (by unfold mkC; rw [if_pos h1]; exact hat.1)
  have ha : (mkA m l ch).getD (ntN l j) false = (afterK ch l l.length j).2 := getD_of (by unfold mkA; rw [if_pos h1]; exact hat.2)
  have hd : (duV m l mi).getD (ntN l j) ⟨0, 0⟩ = (mget (j : Int) (duM m l mi)).getD (bsT m s) := getD_of (by unfold duV; rw [if_pos h2]; exact dvK_get hs h3 l.length hk)
  rw [hc, ha, hd]
theorem dots_note {l : List Sg} {k : Nat} {s : Sg} (hs : l[k]? = some s) (h3 : ¬ s.Kind = 3) : dotsK l (k + 1) = dotsK l k := by
  simp [dotsK, hs, h3]
theorem dots_dot {l : List Sg} {k : Nat} {s : Sg} (hs : l[k]? = some s) (h3 : s.Kind = 3) : dotsK l (k + 1) = dotsK l k ++ [(k : Int)] := by
  simp [dotsK, hs, h3]
theorem mns_len (m : Mn) (l : List Sg) : (mnsD m l).length = (dotsK l l.length).length := by unfold mnsD; simp
/-- Another meaning of the dot behind a sign. -/
theorem aft_no {l : List Sg} {ch ch' : List Int} {k : Nat} (h : ∀ z, l[k + 1]? = some z → ¬ z.Kind = 3) : afterK ch l l.length k = afterK ch' l l.length k := by
  unfold afterK
  cases hz : l[k + 1]? with
  | none => rfl
  | some z => simp only; rw [if_neg (fun e => h z hz e.2), if_neg (fun e => h z hz e.2)]
theorem aft_yes {l : List Sg} {ch ch' : List Int} {k : Nat} {s z : Sg} (hs : l[k]? = some s) (h3 : ¬ s.Kind = 3) (hz : l[k + 1]? = some z) (hz3 : z.Kind = 3) {v : Int} (hv : ch[(dotsK l k).length]? = some v) (hv' : ch'[(dotsK l k).length]? = some v) : afterK ch l l.length k = afterK ch' l l.length k := by
  unfold afterK
  rw [hz]; simp only
  rw [dots_note hs h3, getD_of hv, getD_of hv']
theorem dot_at {m : Mn} {l : List Sg} {ch : List Int} (h1 : mkE m l ch = 0) {k : Nat} {s z : Sg} (hs : l[k]? = some s) (h3 : ¬ s.Kind = 3) (hz : l[k + 1]? = some z) (hz3 : z.Kind = 3) : (dotsK l k).length < ch.length := by
  have h := dotsK_at hz hz3 l.length (List.getElem?_eq_some_iff.1 hz).1
  rw [dots_note hs h3] at h
  have hl := (List.getElem?_eq_some_iff.1 h).1
  rw [← (mk_len h1).1, mns_len]; exact hl
theorem dot_end {m : Mn} {l : List Sg} {ch : List Int} (h1 : mkE m l ch = 0) : (dotsK l l.length).length = ch.length := by
  rw [← (mk_len h1).1, mns_len]
theorem du_len {m : Mn} {l : List Sg} {mi : List Int} (h2 : duE m l mi = 0) : ckD m l = 0 ∧ mi.length = (pairK m l l.length).length ∧ mnOk mi = true := by
  unfold duE at h2
  split at h2
  · rename_i hc
    split at h2
    · rename_i h; exact ⟨hc, by rw [h.1]; unfold prL pairL; rw [if_pos hc], h.2⟩
    · cases h2
  · rename_i hc; exact absurd h2 hc
theorem pr_eq {m : Mn} {l : List Sg} (hc : ckD m l = 0) : prL m l = pairK m l l.length := by unfold prL pairL; rw [if_pos hc]
/-- The two notes of a pair. -/
theorem pair_marks {m : Mn} {l : List Sg} {mi : List Int} (h2 : duE m l mi = 0) {k : Nat} (hp : isPair m l (k : Int) = true) {y : Int} (hy : mi[(pairK m l k).length]? = some y) :
    mget (k : Int) (duM m l mi) = (if y = 2 then some ⟨3, 2⟩ else none) ∧ mget ((k + 1 : Nat) : Int) (duM m l mi) = (if y = 2 then some ⟨1, 2⟩ else none) := by
  have hd := du_len h2
  have hf := isPair_fact hp
  have hat := pairK_at hp l.length (by omega)
  unfold duM
  rw [pr_eq hd.1]
  have h := mark_pr (mi := mi) (pairK_in2 (m := m) (l := l) l.length) _ (Nat.le_refl _) _ _ (List.getElem?_eq_some_iff.1 hat).1 hat
  rw [hy] at h
  by_cases e : y = 2
  · subst e
    rw [if_pos rfl, if_pos rfl]
    rw [if_pos rfl, if_pos rfl] at h
    exact h
  · rw [if_neg e, if_neg e]
    rw [if_neg (fun e2 => e (by injection e2)), if_neg (fun e2 => e (by injection e2))] at h
    exact h
theorem pair_lt {m : Mn} {l : List Sg} {mi : List Int} (h2 : duE m l mi = 0) {k : Nat} (hp : isPair m l (k : Int) = true) : (pairK m l k).length < mi.length := by
  have hf := isPair_fact hp
  have hat := pairK_at hp l.length (by omega)
  rw [(du_len h2).2.1]; exact (List.getElem?_eq_some_iff.1 hat).1
/-- The signs of a pair. -/
theorem pair_sg {m : Mn} {l : List Sg} {k : Nat} (hp : isPair m l (k : Int) = true) : ∃ s t, l[k]? = some s ∧ l[k + 1]? = some t ∧ clr s = true ∧ clr t = true ∧ s.Kind = 1 ∧ t.Kind = 1 ∧ s.Value = 4 ∧ t.Value = 5 ∧ (∀ z, l[k + 2]? = some z → ¬ z.Kind = 3) := by
  have hf := isPair_fact hp
  have hl : k + 1 < l.length := by omega
  have g : ∀ i : Nat, i < l.length → l[i]? = some (l.getD i default) := fun i hi => by rw [List.getD_eq_getElem?_getD, List.getElem?_eq_getElem hi]; rfl
  have e1 : ((k : Int) + 1).toNat = k + 1 := by omega
  rw [Int.toNat_natCast, e1] at hf
  have kk : ∀ s : Sg, clr s = true → s.Kind = 1 := fun s h => by unfold clr at h; simp at h; exact h.1
  refine ⟨_, _, g k (by omega), g (k + 1) hl, hf.2.1, hf.2.2.2.1, kk _ hf.2.1, kk _ hf.2.2.2.1, hf.2.2.1, hf.2.2.2.2, fun z hz h3 => ?_⟩
  unfold isPair pairB at hp
  simp only [Bool.and_eq_true, decide_eq_true_eq, Bool.not_eq_true', Bool.and_eq_false_iff, decide_eq_false_iff_not] at hp
  have h := hp.2.1.1.2
  have e2 : ((k : Int) + 2).toNat = k + 2 := by omega
  rw [e2, getD_of hz] at h
  have := (List.getElem?_eq_some_iff.1 hz).1
  rcases h with h | h
  · omega
  · exact h h3
/-! Where the next note or rest stands. -/
theorem nxt {l : List Sg} (hD : DotsOk l) {k : Nat} {s : Sg} (hs : l[k]? = some s) (h3 : ¬ s.Kind = 3) (hn : ntN l k + 1 < ntN l l.length) :
    (∃ t, l[k + 1]? = some t ∧ ¬ t.Kind = 3 ∧ ntN l (k + 1) = ntN l k + 1) ∨ (∃ z t, l[k + 1]? = some z ∧ z.Kind = 3 ∧ l[k + 2]? = some t ∧ ¬ t.Kind = 3 ∧ ntN l (k + 2) = ntN l k + 1) := by
  have e := ntN_nr hs h3
  have hk : k + 1 < l.length := nt_lt (l := l) (by omega)
  have ht : l[k + 1]? = some l[k + 1] := List.getElem?_eq_getElem hk
  by_cases h : (l[k + 1]).Kind = 3
  · have e2 := ntN_dot ht h
    have hk2 : k + 1 + 1 < l.length := nt_lt (l := l) (by omega)
    have ht2 : l[k + 2]? = some l[k + 2] := List.getElem?_eq_getElem hk2
    refine .inr ⟨_, _, ht, h, ht2, fun h4 => ?_, by rw [show k + 2 = k + 1 + 1 by omega, e2]; omega⟩
    obtain ⟨j, p, hj, hp, hp3⟩ := hD _ _ ht2 h4
    have : j = k + 1 := by omega
    subst this
    rw [ht] at hp; injection hp with hp; rw [hp] at h; exact hp3 h
  · exact .inl ⟨_, ht, h, e⟩
abbrev ItCol (l : List Sg) (x : List Ite) : Prop := x.length = ntN l l.length ∧ ∀ (j : Nat) t, l[j]? = some t → ¬ t.Kind = 3 → ∃ X, x[ntN l j]? = some X ∧ X.Color = clr t
theorem itm_col {m : Mn} {l : List Sg} {ch mi : List Int} (h1 : mkE m l ch = 0) (h2 : duE m l mi = 0) (hD : DotsOk l) : ItCol l (itmV m l ch mi) :=
  ⟨itm_len h1 h2, fun j t ht h3 => ⟨_, it_get h1 h2 hD ht h3, rfl⟩⟩
theorem near_prev {l : List Sg} (hD : DotsOk l) {x : List Ite} (hx : ItCol l x) : ∀ {k : Nat} {s : Sg}, l[k]? = some s → frB (nearF l (-1) ((k : Int) - 1)) = (decide (ntN l k = 0) || !(x.getD (ntN l k - 1) default).Color)
  | 0, s, hs => by
    unfold nearF
    rw [nearA_out (by omega)]; rfl
  | k + 1, s, hs => by
    have hk := (List.getElem?_eq_some_iff.1 hs).1
    have ht : l[k]? = some l[k] := List.getElem?_eq_getElem (by omega)
    unfold nearF
    rw [show ((k + 1 : Nat) : Int) - 1 = (k : Int) by omega]
    by_cases h : (l[k]).Kind = 3
    · obtain ⟨j, p, hj, hp, hp3⟩ := hD _ _ ht h
      subst hj
      rw [nearA_go (by omega) (by rw [Int.toNat_natCast, getD_of ht]; exact h) (by omega)]
      rw [show ((j + 1 : Nat) : Int) + -1 = (j : Int) by omega, nearA_hit (by omega) (by rw [Int.toNat_natCast, getD_of hp]; exact hp3) (by omega), Int.toNat_natCast, getD_of hp]
      have e1 := ntN_dot ht h
      have e2 := ntN_nr hp hp3
      obtain ⟨X, hX, hc⟩ := hx.2 j p hp hp3
      rw [e1, e2, decide_eq_false (by omega), show ntN l j + 1 - 1 = ntN l j by omega, getD_of hX, hc]; rfl
    · rw [nearA_hit (by omega) (by rw [Int.toNat_natCast, getD_of ht]; exact h) (by omega), Int.toNat_natCast, getD_of ht]
      have e2 := ntN_nr ht h
      obtain ⟨X, hX, hc⟩ := hx.2 k _ ht h
      rw [e2, decide_eq_false (by omega), show ntN l k + 1 - 1 = ntN l k by omega, getD_of hX, hc]; rfl
theorem near_next {l : List Sg} {x : List Ite} (hx : ItCol l x) {k : Nat} (h : ∀ z, l[k]? = some z → ¬ z.Kind = 3) : frB (nearF l 1 (k : Int)) = (decide (x.length ≤ ntN l k) || !(x.getD (ntN l k) default).Color) := by
  unfold nearF
  rw [hx.1]
  by_cases hk : k < l.length
  · have ht : l[k]? = some l[k] := List.getElem?_eq_getElem hk
    have h3 := h _ ht
    have := nt_strict ht h3 hk
    obtain ⟨X, hX, hc⟩ := hx.2 k _ ht h3
    rw [nearA_hit (by omega) (by rw [Int.toNat_natCast, getD_of ht]; exact h3) (by omega), Int.toNat_natCast, getD_of ht, decide_eq_false (by omega), getD_of hX, hc]; rfl
  · rw [nearA_out (by omega)]
    have := ntN_mono l k l.length (by omega)
    rw [decide_eq_true this]; rfl
/-- What the statement asks of two items that follow each other. -/
def minV (m : Mn) (l : List Sg) (x : List Ite) (n : Nat) (X Y : Ite) : Bool :=
  decide (m.Pro = 2) && X.Color && decide (X.Value = 4) && Y.Color && decide (Y.Value = 5) && decide (Y.Sign = X.Sign + 1) && !(decide (0 ≤ Y.Sign + 1) && decide (Y.Sign + 1 < (l.length : Int)) && decide ((l.getD (Y.Sign + 1).toNat default).Kind = 3)) &&
  ((decide (n = 0) || !(x.getD (n - 1) default).Color) && (decide (x.length ≤ n + 2) || !(x.getD (n + 2) default).Color))
theorem min_is {m : Mn} {l : List Sg} {ch mi : List Int} (h1 : mkE m l ch = 0) (h2 : duE m l mi = 0) (hD : DotsOk l) {k : Nat} {s : Sg} (hs : l[k]? = some s) (h3 : ¬ s.Kind = 3) {X Y : Ite}
    (hX : (itmV m l ch mi)[ntN l k]? = some X) (hY : (itmV m l ch mi)[ntN l k + 1]? = some Y) : minV m l (itmV m l ch mi) (ntN l k) X Y = isPair m l (k : Int) := by
  have hcol := itm_col h1 h2 hD
  have hlen := (List.getElem?_eq_some_iff.1 hY).1
  rw [itm_len h1 h2] at hlen
  rw [it_get h1 h2 hD hs h3] at hX
  injection hX with hX
  have hprev := near_prev hD hcol hs
  have e1 : ((k : Int) + 1).toNat = k + 1 := by omega
  have e2 : ((k : Int) + 2).toNat = k + 2 := by omega
  have hk := (List.getElem?_eq_some_iff.1 hs).1
  have kk : ∀ s : Sg, clr s = true → s.Kind = 1 := fun s h => by unfold clr at h; simp at h; exact h.1
  rcases nxt hD hs h3 hlen with ⟨t, ht, ht3, hn⟩ | ⟨z, t, hz, hz3, ht, ht3, hn⟩
  · have hk1 := (List.getElem?_eq_some_iff.1 ht).1
    rw [← hn, it_get h1 h2 hD ht ht3] at hY
    injection hY with hY
    subst hX hY
    have a1 : (iTM m l ch mi k s).Color = clr s := rfl
    have a2 : (iTM m l ch mi k s).Value = s.Value := rfl
    have a3 : (iTM m l ch mi k s).Sign = (k : Int) := rfl
    have b1 : (iTM m l ch mi (k + 1) t).Color = clr t := rfl
    have b2 : (iTM m l ch mi (k + 1) t).Value = t.Value := rfl
    have b3 : (iTM m l ch mi (k + 1) t).Sign = ((k + 1 : Nat) : Int) := rfl
    unfold minV isPair pairB
    rw [a1, a2, a3, b1, b2, b3, Int.toNat_natCast, e1, e2, getD_of hs, getD_of ht, hprev, show (((k + 1 : Nat) : Int) + 1).toNat = k + 2 by omega]
    rw [decide_eq_true (show ((k + 1 : Nat) : Int) = (k : Int) + 1 by omega), decide_eq_true (show (k : Int) + 1 < (l.length : Int) by omega), decide_eq_true (show (0 : Int) ≤ ((k + 1 : Nat) : Int) + 1 by omega)]
    rw [show ((k + 1 : Nat) : Int) + 1 = (k : Int) + 2 by omega]
    by_cases hd : ∃ z, l[k + 2]? = some z ∧ z.Kind = 3
    · obtain ⟨z, hz, hz3⟩ := hd
      have := (List.getElem?_eq_some_iff.1 hz).1
      rw [decide_eq_true (show (k : Int) + 2 < (l.length : Int) by omega), getD_of hz, decide_eq_true hz3]
      simp
    · have hnd : ∀ z, l[k + 2]? = some z → ¬ z.Kind = 3 := fun z hz h => hd ⟨z, hz, h⟩
      have hq : (decide ((k : Int) + 2 < (l.length : Int)) && decide ((l.getD (k + 2) default).Kind = 3)) = false := by
        by_cases hl : k + 2 < l.length
        · rw [getD_of (List.getElem?_eq_getElem hl), decide_eq_false (hnd _ (List.getElem?_eq_getElem hl))]; simp
        · rw [decide_eq_false (by omega)]; rfl
      have hnx := near_next hcol hnd
      have e4 : ntN l (k + 2) = ntN l k + 2 := by
        rw [show k + 2 = k + 1 + 1 by omega, ntN_nr ht ht3, hn]
      rw [e4] at hnx
      rw [show (((k + 2 : Nat)) : Int) = (k : Int) + 2 by omega] at hnx
      rw [hnx]
      simp only [Bool.true_and, Bool.and_true, hq, Bool.not_false, Bool.and_assoc]
  · rw [← hn, it_get h1 h2 hD ht ht3] at hY
    injection hY with hY
    subst hX hY
    have e5 : isPair m l (k : Int) = false := by
      unfold isPair pairB
      rw [e1, getD_of hz]
      have : clr z = false := by cases hc : clr z with
        | false => rfl
        | true => have := kk z hc; omega
      rw [this]; simp
    rw [e5]
    unfold minV
    rw [decide_eq_false (show ¬ (iTM m l ch mi (k + 2) t).Sign = (iTM m l ch mi k s).Sign + 1 from fun h => by
      have h : ((k + 2 : Nat) : Int) = (k : Int) + 1 := h
      omega)]
    simp
theorem iTM_eq {m : Mn} {l : List Sg} {ch mi ch' mi' : List Int} {k : Nat} {s : Sg} (ha : afterK ch l l.length k = afterK ch' l l.length k) (hm : mget (k : Int) (duM m l mi) = mget (k : Int) (duM m l mi')) : iTM m l ch mi k s = iTM m l ch' mi' k s := by
  unfold iTM; rw [ha, hm]
def prOk (m : Mn) (_ : Int) : Bool := decide (sumE [durT m 4, durT m 5] = 0)
theorem prOk_all : ckAll prOk = true := by kernel_rfl
theorem pr_sum {m : Mn} (hm : ckM m = 0) {y : Int} (hy : y = 1 ∨ y = 2) {d e : Tm} (hd : d = if y = 2 then ⟨3, 2⟩ else durT m 4) (he : e = if y = 2 then ⟨1, 2⟩ else durT m 5) : sumE [d, e] = 0 ∧ (y = 2 → sumV [d, e] = ⟨2, 1⟩) := by
  have h := ckAll_use prOk_all hm (show (1 : Int) ≤ 1 by omega) (by omega)
  unfold prOk at h
  have h := of_decide_eq_true h
  subst hd he
  rcases hy with rfl | rfl
  · exact ⟨h, fun h => absurd h (by decide)⟩
  · rw [if_pos rfl, if_pos rfl]; exact ⟨by decide +kernel, fun _ => by decide +kernel⟩
theorem mnOk_at {mi : List Int} (h : mnOk mi = true) {j : Nat} {y : Int} (hy : mi[j]? = some y) : y = 1 ∨ y = 2 := by
  unfold mnOk at h
  have := List.all_eq_true.1 h y (List.mem_of_getElem? hy)
  simpa using this
/-- The two items of a pair. -/
theorem pair_it {m : Mn} {l : List Sg} {ch mi : List Int} (h1 : mkE m l ch = 0) (h2 : duE m l mi = 0) (hD : DotsOk l) {k : Nat} (hp : isPair m l (k : Int) = true) {y : Int} (hy : mi[(pairK m l k).length]? = some y) :
    ∃ s t, l[k]? = some s ∧ ¬ s.Kind = 3 ∧ l[k + 1]? = some t ∧ ¬ t.Kind = 3 ∧ ntN l (k + 2) = ntN l k + 2 ∧ (itmV m l ch mi)[ntN l k]? = some (iTM m l ch mi k s) ∧ (itmV m l ch mi)[ntN l k + 1]? = some (iTM m l ch mi (k + 1) t) ∧
      sumE [(iTM m l ch mi k s).Dur, (iTM m l ch mi (k + 1) t).Dur] = 0 ∧ (y = 2 → sumV [(iTM m l ch mi k s).Dur, (iTM m l ch mi (k + 1) t).Dur] = ⟨2, 1⟩) := by
  obtain ⟨s, t, hs, ht, c1, c2, k1, k2, v1, v2, hnd⟩ := pair_sg hp
  have hM := pair_marks h2 hp hy
  have hd := du_len h2
  have hck : ckM m = 0 := (ckFrom_val hd.1 hs (by omega)).1
  have n1 := ntN_nr hs (show ¬ s.Kind = 3 by omega)
  have n2 := ntN_nr ht (show ¬ t.Kind = 3 by omega)
  have x1 := it_get h1 h2 hD hs (show ¬ s.Kind = 3 by omega)
  have x2 := it_get h1 h2 hD ht (show ¬ t.Kind = 3 by omega)
  rw [n1] at x2
  have af : ∀ {j : Nat}, (∀ z, l[j + 1]? = some z → ¬ z.Kind = 3) → afterK ch l l.length j = (0, false) := fun h => by
    unfold afterK
    split
    · rename_i z hz; rw [if_neg (fun e => h z hz e.2)]
    · rfl
  have af1 := af (j := k) (fun z hz => by rw [ht] at hz; injection hz with hz; subst hz; omega)
  have af2 := af (j := k + 1) hnd
  have d1 : (iTM m l ch mi k s).Dur = if y = 2 then ⟨3, 2⟩ else durT m 4 := by
    show (if (afterK ch l l.length k).2 = true then mulV ((mget (k : Int) (duM m l mi)).getD (bsT m s)) ⟨3, 2⟩ else (mget (k : Int) (duM m l mi)).getD (bsT m s)) = _
    rw [af1, hM.1, if_neg (by decide)]
    split
    · rfl
    · show bsT m s = _; rw [← bsT_c c1, v1]
  have d2 : (iTM m l ch mi (k + 1) t).Dur = if y = 2 then ⟨1, 2⟩ else durT m 5 := by
    show (if (afterK ch l l.length (k + 1)).2 = true then mulV ((mget ((k + 1 : Nat) : Int) (duM m l mi)).getD (bsT m t)) ⟨3, 2⟩ else (mget ((k + 1 : Nat) : Int) (duM m l mi)).getD (bsT m t)) = _
    rw [af2, hM.2, if_neg (by decide)]
    split
    · rfl
    · show bsT m t = _; rw [← bsT_c c2, v2]
  have hsum := pr_sum hck (mnOk_at hd.2.2 hy) d1 d2
  exact ⟨s, t, hs, by omega, ht, by omega, by rw [show k + 2 = k + 1 + 1 by omega, n2, n1], x1, x2, hsum.1, hsum.2⟩
theorem minV_t {m : Mn} {l : List Sg} {x : List Ite} {n : Nat} {X Y : Ite} (h : minV m l x n X Y = true) : m.Pro = 2 ∧ X.Color = true ∧ X.Value = 4 ∧ Y.Color = true ∧ Y.Value = 5 ∧ Y.Sign = X.Sign + 1 ∧ ¬ ((0 ≤ Y.Sign + 1 ∧ Y.Sign + 1 < (l.length : Int)) ∧ (l.getD (Y.Sign + 1).toNat default).Kind = 3) := by
  unfold minV at h
  simp only [Bool.and_eq_true, decide_eq_true_eq, Bool.not_eq_true', Bool.and_eq_false_iff, decide_eq_false_iff_not] at h
  obtain ⟨⟨⟨⟨⟨⟨⟨h1, h2⟩, h3⟩, h4⟩, h5⟩, h6⟩, h7⟩, _⟩ := h
  refine ⟨h1, h2, h3, h4, h5, h6, fun e => ?_⟩
  rcases h7 with (h7 | h7) | h7
  · exact h7 e.1.1
  · exact h7 e.1.2
  · exact h7 e.2
theorem minV_e {m : Mn} {l : List Sg} {x : List Ite} {n : Nat} {X Y : Ite} (h1 : m.Pro = 2 ∧ X.Color = true ∧ X.Value = 4 ∧ Y.Color = true ∧ Y.Value = 5 ∧ Y.Sign = X.Sign + 1) (h7 : ¬ ((0 ≤ Y.Sign + 1 ∧ Y.Sign + 1 < (l.length : Int)) ∧ (l.getD (Y.Sign + 1).toNat default).Kind = 3)) :
    minV m l x n X Y = ((decide (n = 0) || !(x.getD (n - 1) default).Color) && (decide (x.length ≤ n + 2) || !(x.getD (n + 2) default).Color)) := by
  obtain ⟨e1, e2, e3, e4, e5, e6⟩ := h1
  have e7 : (decide (0 ≤ Y.Sign + 1) && decide (Y.Sign + 1 < (l.length : Int)) && decide ((l.getD (Y.Sign + 1).toNat default).Kind = 3)) = false := by
    rw [← Bool.decide_and, ← Bool.decide_and]; exact decide_eq_false h7
  unfold minV
  rw [e7, decide_eq_true e1, e2, decide_eq_true e3, e4, decide_eq_true e5, decide_eq_true e6]
  simp
theorem itm_sign {m : Mn} {l : List Sg} {ch mi : List Int} (h1 : mkE m l ch = 0) (h2 : duE m l mi = 0) {i : Nat} {x : Ite} (hx : (itmV m l ch mi)[i]? = some x) : 0 ≤ x.Sign ∧ x.Sign < (l.length : Int) := by
  rw [itmV_y (by unfold itmE; rw [if_pos h1, h2])] at hx
  obtain ⟨k, s, hk, hs, h3, hn, rfl⟩ := it_idx l.length hx
  show (0 : Int) ≤ (k : Int) ∧ (k : Int) < _
  omega
theorem itmE_0 {m : Mn} {l : List Sg} {ch mi : List Int} (h : itmE m l ch mi = 0) : mkE m l ch = 0 ∧ duE m l mi = 0 := by
  unfold itmE at h
  split at h
  · exact ⟨by assumption, h⟩
  · exact absurd h (by assumption)
/-! From an item to the next one that stands apart: behind a dot, behind a pair, else. -/
structure At (m : Mn) (l : List Sg) (k : Nat) : Prop where
  le : k ≤ l.length
  nd : ∀ z, l[k]? = some z → ¬ z.Kind = 3
  np : ∀ j : Nat, j + 1 = k → isPair m l (j : Int) = false
theorem At.zero {m : Mn} {l : List Sg} (hD : DotsOk l) : At m l 0 := ⟨Nat.zero_le _, fun z hz h3 => by obtain ⟨j, _, h, _⟩ := hD 0 z hz h3; omega, fun j h => by omega⟩
theorem dot_np {m : Mn} {l : List Sg} {k : Nat} {z : Sg} (hz : l[k]? = some z) (h3 : z.Kind = 3) : isPair m l (k : Int) = false := by
  cases h : isPair m l (k : Int) with
  | false => rfl
  | true =>
    obtain ⟨s, t, hs, ht, c1, c2, k1, k2, -⟩ := pair_sg h
    rw [hz] at hs; injection hs with hs; subst hs; omega
theorem dot_np' {m : Mn} {l : List Sg} {k : Nat} {z : Sg} (hz : l[k + 1]? = some z) (h3 : z.Kind = 3) : isPair m l (k : Int) = false := by
  cases h : isPair m l (k : Int) with
  | false => rfl
  | true =>
    obtain ⟨s, t, hs, ht, c1, c2, k1, k2, -⟩ := pair_sg h
    rw [hz] at ht; injection ht with ht; subst ht; omega
theorem step_dot {m : Mn} {l : List Sg} (hD : DotsOk l) {k : Nat} {s z : Sg} (hs : l[k]? = some s) (h3 : ¬ s.Kind = 3) (hz : l[k + 1]? = some z) (hz3 : z.Kind = 3) :
    At m l (k + 2) ∧ ntN l (k + 2) = ntN l k + 1 ∧ (dotsK l (k + 2)).length = (dotsK l k).length + 1 ∧ pairK m l (k + 2) = pairK m l k := by
  have hk := (List.getElem?_eq_some_iff.1 hz).1
  refine ⟨⟨by omega, fun w hw hw3 => ?_, fun j hj => ?_⟩, ?_, ?_, ?_⟩
  · obtain ⟨j, p, hj, hp, hp3⟩ := hD _ _ hw hw3
    have : j = k + 1 := by omega
    subst this
    rw [hz] at hp; injection hp with hp; subst hp; exact hp3 hz3
  · have : j = k + 1 := by omega
    subst this; exact dot_np hz hz3
  · rw [show k + 2 = k + 1 + 1 by omega, ntN_dot hz hz3, ntN_nr hs h3]
  · rw [show k + 2 = k + 1 + 1 by omega, dots_dot hz hz3, dots_note hs h3]; simp
  · rw [show k + 2 = k + 1 + 1 by omega, ← pairK_no (dot_np hz hz3), ← pairK_no (dot_np' hz hz3)]
theorem step_pair {m : Mn} {l : List Sg} {k : Nat} (hp : isPair m l (k : Int) = true) : At m l (k + 2) ∧ ntN l (k + 2) = ntN l k + 2 ∧ dotsK l (k + 2) = dotsK l k ∧ (pairK m l (k + 2)).length = (pairK m l k).length + 1 := by
  obtain ⟨s, t, hs, ht, c1, c2, k1, k2, v1, v2, hnd⟩ := pair_sg hp
  have hk := (List.getElem?_eq_some_iff.1 ht).1
  have hn : isPair m l ((k + 1 : Nat) : Int) = false := by
    cases h : isPair m l ((k + 1 : Nat) : Int) with
    | false => rfl
    | true => exact absurd (show ((k + 1 : Nat) : Int) = (k : Int) + 1 by omega) (pair_ap h hp)
  refine ⟨⟨by omega, hnd, fun j hj => ?_⟩, ?_, ?_, ?_⟩
  · have : j = k + 1 := by omega
    subst this; exact hn
  · rw [show k + 2 = k + 1 + 1 by omega, ntN_nr ht (by omega), ntN_nr hs (by omega)]
  · rw [show k + 2 = k + 1 + 1 by omega, dots_note ht (by omega), dots_note hs (by omega)]
  · rw [show k + 2 = k + 1 + 1 by omega, ← pairK_no hn, ← pairK_yes hp]; simp
theorem step_none {m : Mn} {l : List Sg} {k : Nat} {s : Sg} (hs : l[k]? = some s) (h3 : ¬ s.Kind = 3) (hp : isPair m l (k : Int) = false) (hnd : ∀ z, l[k + 1]? = some z → ¬ z.Kind = 3) : At m l (k + 1) ∧ ntN l (k + 1) = ntN l k + 1 ∧ dotsK l (k + 1) = dotsK l k ∧ pairK m l (k + 1) = pairK m l k :=
  ⟨⟨(List.getElem?_eq_some_iff.1 hs).1, hnd, fun j hj => (show j = k by omega) ▸ hp⟩, ntN_nr hs h3, dots_note hs h3, (pairK_no hp).symm⟩
theorem sub_two {α : Type} {x : List α} {n : Nat} {a b : α} (ha : x[n]? = some a) (hb : x[n + 1]? = some b) : (x.drop n).take 2 = [a, b] := by
  apply List.ext_getElem?
  intro i
  rw [List.getElem?_take, List.getElem?_drop]
  match i with
  | 0 => simp [ha]
  | 1 => simp [hb]
  | i + 2 => simp; omega
/-- What the statement finds at two combinations of meanings. -/
structure Two (m : Mn) (l : List Sg) (a b d g : List Int) : Prop where
  dots : DotsOk l
  a : mkE m l a = 0
  b : duE m l b = 0
  d : mkE m l d = 0
  g : duE m l g = 0
section
variable {m : Mn} {l : List Sg} {a b d g : List Int} {k : Nat} {s : Sg}
theorem Two.lens (h : Two m l a b d g) : (itmV m l a b).length = ntN l l.length ∧ (itmV m l d g).length = ntN l l.length ∧ a.length = (dotsK l l.length).length ∧ d.length = (dotsK l l.length).length ∧ b.length = (pairK m l l.length).length ∧ g.length = (pairK m l l.length).length :=
  ⟨itm_len h.a h.b, itm_len h.d h.g, (dot_end h.a).symm, (dot_end h.d).symm, (du_len h.b).2.1, (du_len h.g).2.1⟩
theorem Two.items (h : Two m l a b d g) (hs : l[k]? = some s) (h3 : ¬ s.Kind = 3) : (itmV m l a b)[ntN l k]? = some (iTM m l a b k s) ∧ (itmV m l d g)[ntN l k]? = some (iTM m l d g k s) := ⟨it_get h.a h.b h.dots hs h3, it_get h.d h.g h.dots hs h3⟩
theorem Two.dot (h : Two m l a b d g) (hat : At m l k) (hs : l[k]? = some s) (h3 : ¬ s.Kind = 3) {z : Sg} (hz : l[k + 1]? = some z) (hz3 : z.Kind = 3) :
    ∃ v v', a[(dotsK l k).length]? = some v ∧ d[(dotsK l k).length]? = some v' ∧ (v = v' → iTM m l a b k s = iTM m l d g k s) := by
  obtain ⟨v, hv⟩ : ∃ v, a[(dotsK l k).length]? = some v := ⟨_, List.getElem?_eq_getElem (dot_at h.a hs h3 hz hz3)⟩
  obtain ⟨v', hv'⟩ : ∃ v, d[(dotsK l k).length]? = some v := ⟨_, List.getElem?_eq_getElem (dot_at h.d hs h3 hz hz3)⟩
  have hn := dot_np' (m := m) hz hz3
  exact ⟨v, v', hv, hv', fun e => iTM_eq (aft_yes hs h3 hz hz3 hv (by rw [e]; exact hv')) ((mark_no hn hat.np).trans (mark_no hn hat.np).symm)⟩
theorem Two.none (h : Two m l a b d g) (hat : At m l k) (hp : isPair m l (k : Int) = false) (hnd : ∀ z, l[k + 1]? = some z → ¬ z.Kind = 3) : iTM m l a b k s = iTM m l d g k s :=
  iTM_eq (aft_no hnd) ((mark_no hp hat.np).trans (mark_no hp hat.np).symm)
theorem Two.pair (h : Two m l a b d g) (hp : isPair m l (k : Int) = true) : ∃ y y' X Y X' Y', b[(pairK m l k).length]? = some y ∧ g[(pairK m l k).length]? = some y' ∧
    (itmV m l a b)[ntN l k]? = some X ∧ (itmV m l a b)[ntN l k + 1]? = some Y ∧ (itmV m l d g)[ntN l k]? = some X' ∧ (itmV m l d g)[ntN l k + 1]? = some Y' ∧ sumE [X.Dur, Y.Dur] = 0 ∧ (y = 2 → sumV [X.Dur, Y.Dur] = ⟨2, 1⟩) ∧ (y = y' → X = X' ∧ Y = Y') := by
  obtain ⟨y, hy⟩ : ∃ y, b[(pairK m l k).length]? = some y := ⟨_, List.getElem?_eq_getElem (pair_lt h.b hp)⟩
  obtain ⟨y', hy'⟩ : ∃ y, g[(pairK m l k).length]? = some y := ⟨_, List.getElem?_eq_getElem (pair_lt h.g hp)⟩
  obtain ⟨s, t, hs, h3, ht, ht3, hn, x1, x2, s1, s2⟩ := pair_it h.a h.b h.dots hp hy
  obtain ⟨s', t', hs', -, ht', -, -, x1', x2', -, -⟩ := pair_it h.d h.g h.dots hp hy'
  rw [hs] at hs'; injection hs' with hs'; subst hs'
  rw [ht] at ht'; injection ht' with ht'; subst ht'
  obtain ⟨s0, t0, hs0, ht0, -, -, -, -, -, -, hnd⟩ := pair_sg hp
  have m1 := pair_marks h.b hp hy
  have m2 := pair_marks h.g hp hy'
  exact ⟨y, y', _, _, _, _, hy, hy', x1, x2, x1', x2', s1, s2, fun e => ⟨iTM_eq (aft_no fun z hz => by rw [ht] at hz; injection hz with hz; subst hz; exact ht3) (by rw [m1.1, m2.1, e]), iTM_eq (aft_no hnd) (by rw [m1.2, m2.2, e])⟩⟩
theorem Two.min (h : Two m l a b d g) (hs : l[k]? = some s) (h3 : ¬ s.Kind = 3) {X Y : Ite} (hX : (itmV m l a b)[ntN l k]? = some X) (hY : (itmV m l a b)[ntN l k + 1]? = some Y) : minV m l (itmV m l a b) (ntN l k) X Y = isPair m l (k : Int) :=
  min_is h.a h.b h.dots hs h3 hX hY
theorem pair_in (h : Two m l a b d g) (hp : isPair m l (k : Int) = true) : ntN l k + 1 < ntN l l.length := by
  obtain ⟨y, y', X, Y, X', Y', h1, h2, h3, h4, -⟩ := h.pair hp
  have := (List.getElem?_eq_some_iff.1 h4).1
  rw [h.lens.1] at this; exact this
theorem not_dot {l : List Sg} {i : Int} {k : Nat} (hi : i = (k : Int)) (h : (i < 0 ∨ (l.length : Int) ≤ i + 1) ∨ ¬ (l.getD (i + 1).toNat default).Kind = 3) : ∀ z, l[k + 1]? = some z → ¬ z.Kind = 3 := fun z hz h3 => by
  subst hi
  have := (List.getElem?_eq_some_iff.1 hz).1
  rw [show ((k : Int) + 1).toNat = k + 1 by omega, getD_of hz] at h
  rcases h with (h | h) | h
  · omega
  · omega
  · exact h h3
theorem is_dot {l : List Sg} {i : Int} {k : Nat} (hi : i = (k : Int)) (h : (0 ≤ i ∧ i + 1 < (l.length : Int)) ∧ (l.getD (i + 1).toNat default).Kind = 3) : ∃ z, l[k + 1]? = some z ∧ z.Kind = 3 := by
  subst hi
  have hz : l[k + 1]? = some (l.getD (k + 1) default) := by rw [List.getD_eq_getElem?_getD, List.getElem?_eq_getElem (by omega)]; rfl
  refine ⟨_, hz, ?_⟩
  have e := h.2
  rw [show ((k : Int) + 1).toNat = k + 1 by omega] at e; exact e
end
end Go.Rse
