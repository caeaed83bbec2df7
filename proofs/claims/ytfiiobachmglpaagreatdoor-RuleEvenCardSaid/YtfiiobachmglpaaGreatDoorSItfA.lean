/-
  Plain: what an item of a run is, by its number.
  Plain: durations of items: what is not colored is in no pair; none is 0.
  Plain: what another meaning changes: items by their signs, pairs by their items.
  Plain: combinations by number rise in the lists' order, and each is had once (for any valid run).
  Plain: a run's combinations, the meanings of dots and pairs as one list.
  Plain: the runs that tactuskit.Run makes of numbers.
  Plain: the runs that tactuskit.RunOf makes of numbers.
  Plain: the rule's combination gives items.
-/
import Derived.Test.YtfiiobachmglpaaGreatDoorSIteA
import Derived.Test.YtfiiobachmglpaaGreatDoorSDotB
import Derived.Test.YtfiiobachmglpaaGreatDoorSRefA
import Derived.Test.YtfiiobachmglpaaGreatDoorSDurA
import Derived.Test.YtfiiobachmglpaaGreatDoorSKit1
set_option linter.unusedSimpArgs false
set_option linter.unusedVariables false
namespace Go.Rse
open Go Go.Proofs
theorem it_idx {l : List Sg} {c : List Int} {a : List Bool} {d : List Tm} : ∀ (n : Nat) {i : Nat} {x : Ite}, (itK l c a d n)[i]? = some x -> ∃ (k : Nat) (s : Sg), k < n /\ l[k]? = some s /\ ¬ s.Kind = 3 /\ ntN l k = i /\ x = itOf k s (c.getD i 0) (a.getD i false) (d.getD i ⟨0, 0⟩)
 | 0, i, x, h => by simp [itK] at h
 | n + 1, i, x, h => by
  cases hs : l[n]? with
  | none =>
   simp only [itK, hs] at h
   obtain ⟨k, s, h1, h2⟩ := it_idx n h
   exact ⟨k, s, by omega, h2⟩
  | some s =>
   by_cases hK : s.Kind = 3
   ·rw [← itK_dot hs hK] at h
    obtain ⟨k, s, h1, h2⟩ := it_idx n h
    exact ⟨k, s, by omega, h2⟩
   ·simp only [itK, hs, if_neg hK] at h
    rw [List.getElem?_append] at h
    split at h
    ·obtain ⟨k, s, h1, h2⟩ := it_idx n h
     exact ⟨k, s, by omega, h2⟩
    ·rename_i hi
     have hlt := (List.getElem?_eq_some_iff.1 h).1
     rw [itK_nt] at hi hlt h
     have e : i = ntN l n := by simp at hlt; omega
     subst e
     simp at h
     exact ⟨n, s, by omega, hs, hK, rfl, h.symm⟩
def afterK (ch : List Int) (l : List Sg) (n k : Nat) : Int × Bool := match l[k + 1]? with
 | some z => if k + 1 < n /\ z.Kind = 3 then (ch.getD (dotsK l (k + 1)).length 0, decide (ch.getD (dotsK l (k + 1)).length 0 = 0)) else (0, false)
 | none => (0, false)
theorem nt_strict {l : List Sg} {k j : Nat} {s : Sg} (hs : l[k]? = some s) (h : ¬ s.Kind = 3) (hkj : k < j) : ntN l k < ntN l j := by
 have := ntN_mono l j (k + 1) hkj
 rw [ntN_nr hs h] at this; omega
theorem mkK_at {ch : List Int} {l : List Sg} (hD : ∀ (i : Nat) z, l[i]? = some z -> z.Kind = 3 -> ∃ (j : Nat) (p : Sg), i = j + 1 /\ l[j]? = some p /\ ¬ p.Kind = 3) :
 ∀ (n k : Nat) (s : Sg), k < n -> l[k]? = some s -> ¬ s.Kind = 3 -> (mkK ch l n).1[ntN l k]? = some (afterK ch l n k).1 /\ (mkK ch l n).2.1[ntN l k]? = some (afterK ch l n k).2
 | 0, k, s, h, _, _ => by omega
 | n + 1, k, s, hk, hs, h3 => by
  have ih := mkK_at (ch := ch) hD n k s
  have hl1 := mkK_nt ch l n
  have hl2 := (mkK_len ch l n).1
  have hl3 := (mkK_len ch l n).2.2
  have same : ∀ (hne : ¬ (k + 1 = n /\ ∃ z, l[n]? = some z /\ z.Kind = 3)), k < n -> afterK ch l (n + 1) k = afterK ch l n k := fun hne hkn => by
   unfold afterK
   cases hz : l[k + 1]? with
   | none => rfl
   | some z =>
    simp only
    by_cases h1 : k + 1 < n /\ z.Kind = 3
    ·rw [if_pos h1, if_pos ⟨by omega, h1.2⟩]
    ·rw [if_neg h1, if_neg]
     rintro ⟨h2, h4⟩
     have e : k + 1 = n := Classical.byContradiction fun hn => h1 ⟨by omega, h4⟩
     exact hne ⟨e, z, by rw [← e]; exact hz, h4⟩
  cases hz : l[n]? with
  | none =>
   have hkn : k < n := by
    have h1 := (List.getElem?_eq_some_iff.1 hs).1
    have h2 := List.getElem?_eq_none_iff.1 hz
    omega
   have e : mkK ch l (n + 1) = mkK ch l n := by simp only [mkK, hz]
   rw [e, same (fun x => by obtain ⟨_, z, h1, _⟩ := x; rw [hz] at h1; cases h1) hkn]
   exact ih hkn hs h3
  | some z =>
   by_cases hK : z.Kind = 3
   ·obtain ⟨j, p, hj, hp, hp3⟩ := hD n z hz hK
    subst hj
    have hkn : k < j + 1 := by
     rcases Nat.lt_or_ge k (j + 1) with h1 | h1
     ·exact h1
     ·have : k = j + 1 := by omega
      subst this; rw [hz] at hs; injection hs with hs; subst hs; exact absurd hK h3
    have hnj : ntN l (j + 1) = ntN l j + 1 := ntN_nr hp hp3
    obtain ⟨i1, i2⟩ := ih hkn hs h3
    rw [mkK_dot hz hK]
    have e1 : (((mkK ch l (j + 1)).1.length : Int) - 1).toNat = ntN l j := by omega
    have e2 : (((mkK ch l (j + 1)).2.1.length : Int) - 1).toNat = ntN l j := by omega
    rw [e1, e2]
    by_cases hkj : k = j
    ·subst hkj
     have ea : afterK ch l (k + 1 + 1) k = (ch.getD (dotsK l (k + 1)).length 0, decide (ch.getD (dotsK l (k + 1)).length 0 = 0)) := by
      unfold afterK; rw [hz]; simp only; rw [if_pos ⟨by omega, hK⟩]
     rw [ea, hl3]
     constructor
     ·rw [List.getElem?_set_self (by omega)]
     ·rw [List.getElem?_set_self (by omega)]
    ·have hne : ntN l j ≠ ntN l k := by have := nt_strict hs h3 (show k < j by omega); omega
     rw [same (fun x => by omega) hkn, List.getElem?_set_ne hne, List.getElem?_set_ne hne]
     exact ⟨i1, i2⟩
   ·rw [mkK_note hz hK]
    by_cases hkn : k < n
    ·obtain ⟨i1, i2⟩ := ih hkn hs h3
     rw [same (fun x => by obtain ⟨_, z', h1, h2⟩ := x; rw [hz] at h1; injection h1 with h1; subst h1; exact hK h2) hkn]
     have g1 := (List.getElem?_eq_some_iff.1 i1).1
     have g2 := (List.getElem?_eq_some_iff.1 i2).1
     exact ⟨by rw [List.getElem?_append_left g1]; exact i1, by rw [List.getElem?_append_left g2]; exact i2⟩
    ·have e : k = n := by omega
     subst e
     have ea : afterK ch l (k + 1) k = (0, false) := by
      unfold afterK
      cases l[k + 1]? with
      | none => rfl
      | some z' => simp only; rw [if_neg (by omega)]
     rw [ea]
     constructor
     ·show ((mkK ch l k).1 ++ [0])[ntN l k]? = some 0
      rw [← hl1]; simp
     ·show ((mkK ch l k).2.1 ++ [false])[ntN l k]? = some false
      rw [← hl1, hl2]; simp
end Go.Rse
namespace Go.Rse
open Go Go.Proofs
theorem isPair_fact {m : Mn} {l : List Sg} {x : Int} (h : isPair m l x = true) : x + 1 < (l.length : Int) /\ clr (l.getD x.toNat default) = true /\ (l.getD x.toNat default).Value = 4 /\ clr (l.getD (x + 1).toNat default) = true /\ (l.getD (x + 1).toNat default).Value = 5 := by
 unfold isPair pairB at h
 simp only [Bool.and_eq_true, decide_eq_true_eq] at h
 obtain ⟨_, ⟨⟨⟨⟨⟨⟨h1, h2⟩, h3⟩, h4⟩, h5⟩, _⟩, _⟩, _⟩ := h
 exact ⟨h1, h2, h3, h4, h5⟩
theorem pairK_mem {m : Mn} {l : List Sg} : ∀ (k : Nat) (x : Int), x ∈ pairK m l k -> isPair m l x = true /\ 0 <= x /\ x < (k : Int)
 | 0, x, h => by unfold pairK at h; simp at h
 | k + 1, x, h => by
  unfold pairK at h
  split at h
  ·rename_i hp
   rcases List.mem_append.1 h with h | h
   ·have := pairK_mem k x h; exact ⟨this.1, by omega, by omega⟩
   ·simp at h; subst h; exact ⟨hp, by omega, by omega⟩
  ·have := pairK_mem k x h; exact ⟨this.1, by omega, by omega⟩
theorem prL_mem {m : Mn} {l : List Sg} {x : Int} (h : x ∈ prL m l) : isPair m l x = true /\ 0 <= x /\ x < (l.length : Int) := by
 unfold prL at h
 split at h
 ·unfold pairL at h; exact pairK_mem _ x h
 ·simp at h
theorem dotsK_at {l : List Sg} {k : Nat} {s : Sg} (hs : l[k]? = some s) (h3 : s.Kind = 3) : ∀ n, k < n -> (dotsK l n)[(dotsK l k).length]? = some (k : Int)
 | 0, h => by omega
 | n + 1, h => by
  rcases Nat.lt_or_ge k n with h1 | h1
  ·have ih := dotsK_at hs h3 n h1
   have hl := (List.getElem?_eq_some_iff.1 ih).1
   rw [dotsK, List.getElem?_append, if_pos hl]; exact ih
  ·have : k = n := by omega
   subst this
   rw [dotsK, List.getElem?_append, if_neg (by omega)]
   simp [hs, h3]
theorem markK_key (p mi : List Int) (q : Int) : ∀ k, mget q (markK p mi k) = none \/ ∃ j, j < k /\ (q = p.getD j 0 \/ q = p.getD j 0 + 1)
 | 0 => .inl (by simp [markK, mget_nil])
 | k + 1 => by
  have ih := markK_key p mi q k
  unfold markK
  split
  ·rw [mget_mput, mget_mput]
   by_cases h1 : p.getD k 0 + 1 = q
   ·exact .inr ⟨k, by omega, .inr h1.symm⟩
   ·by_cases h2 : p.getD k 0 = q
    ·exact .inr ⟨k, by omega, .inl h2.symm⟩
    ·rw [if_neg h1, if_neg h2]
     rcases ih with h | ⟨j, h3, h4⟩
     ·exact .inl h
     ·exact .inr ⟨j, by omega, h4⟩
  ·rcases ih with h | ⟨j, h3, h4⟩
   ·exact .inl h
   ·exact .inr ⟨j, by omega, h4⟩
theorem mark_un {m : Mn} {l : List Sg} {mi : List Int} {k : Nat} {s : Sg} (hs : l[k]? = some s) (hc : clr s = false) : mget (k : Int) (duM m l mi) = none := by
 unfold duM
 rcases markK_key (prL m l) mi (k : Int) (prL m l).length with h | ⟨j, hj, h⟩
 ·exact h
 ·exfalso
  have hx : (prL m l)[j]? = some ((prL m l).getD j 0) := by rw [List.getD_eq_getElem?_getD, List.getElem?_eq_getElem hj]; rfl
  have hm := prL_mem (List.mem_of_getElem? hx)
  have hf := isPair_fact hm.1
  rcases h with h | h
  ·have h2 := hf.2.1
   rw [← h, Int.toNat_natCast, getD_of hs, hc] at h2; cases h2
  ·have h2 := hf.2.2.2.1
   rw [← h, Int.toNat_natCast, getD_of hs, hc] at h2; cases h2
def posOk (m : Mn) (v : Int) : Bool := decide (1 <= (fullT m v).N) && decide (1 <= (durT m v).N) && decide (1 <= (mulV (fullT m v) ⟨3, 2⟩).N) && decide (1 <= (mulV (durT m v) ⟨3, 2⟩).N)
theorem posOk_all : ckAll posOk = true := by kernel_rfl
theorem dur_pos {m : Mn} {s : Sg} {z : Tm} (hm : ckM m = 0) (h1 : 1 <= s.Value) (h8 : s.Value <= 8) (hz : z = bsT m s \/ z = ⟨3, 2⟩ \/ z = ⟨1, 2⟩) : 1 <= z.N /\ 1 <= (mulV z ⟨3, 2⟩).N := by
 have h := ckAll_use posOk_all hm h1 h8
 unfold posOk at h
 simp only [Bool.and_eq_true, decide_eq_true_eq] at h
 rcases hz with rfl | rfl | rfl
 ·unfold bsT; split
  ·exact ⟨h.1.1.2, h.2⟩
  ·exact ⟨h.1.1.1, h.1.2⟩
 ·exact ⟨by decide, by decide +kernel⟩
 ·exact ⟨by decide, by decide +kernel⟩
theorem mk_len {m : Mn} {l : List Sg} {ch : List Int} (h : mkE m l ch = 0) : (mnsD m l).length = ch.length /\ chOk ch (mnsD m l) := by
 have hck := ck_mkE h
 unfold mkE at h
 rw [if_pos hck] at h
 split at h
 ·assumption
 ·cases h
theorem rest_add {m : Mn} {l : List Sg} {ch : List Int} (h : mkE m l ch = 0) {k : Nat} {s : Sg} (hs : l[k]? = some s) (h2 : s.Kind = 2) : (afterK ch l l.length k).2 = false := by
 unfold afterK
 cases hz : l[k + 1]? with
 | none => rfl
 | some z =>
  simp only
  split
  ·rename_i hd
   have hat := dotsK_at hz hd.2 l.length hd.1
   obtain ⟨e1, e2⟩ := mk_len h
   have hmn : (mnsD m l)[(dotsK l (k + 1)).length]? = some (mngs m s) := by
    unfold mnsD
    rw [List.getElem?_map, hat]
    show some (mnAt m l ((k + 1 : Nat) : Int)) = _
    unfold mnAt prevS
    rw [show (((k + 1 : Nat) : Int) - 1).toNat = k by omega, hs]
   have hlt := (List.getElem?_eq_some_iff.1 hmn).1
   obtain ⟨v, hv⟩ : ∃ v, ch[(dotsK l (k + 1)).length]? = some v := ⟨_, List.getElem?_eq_getElem (by omega)⟩
   have hmem := chOk_iff.1 e2 _ _ _ hmn hv
   unfold mngs at hmem
   rw [if_pos h2, coll_one] at hmem
   show decide (ch.getD (dotsK l (k + 1)).length 0 = 0) = false
   rw [getD_of hv]
   split at hmem
   ·rename_i hp
    simp at hmem; subst hmem
    exact decide_eq_false (by omega)
   ·simp at hmem
  ·rfl
end Go.Rse
namespace Go.Rse
open Go Go.Proofs
theorem nt_inj {l : List Sg} {k j : Nat} {s t : Sg} (hs : l[k]? = some s) (h : ¬ s.Kind = 3) (ht : l[j]? = some t) (h' : ¬ t.Kind = 3) (e : ntN l k = ntN l j) : k = j := by
 rcases Nat.lt_trichotomy k j with h1 | h1 | h1
 ·have := nt_strict hs h h1; omega
 ·exact h1
 ·have := nt_strict ht h' h1; omega
def iTM (m : Mn) (l : List Sg) (ch mi : List Int) (k : Nat) (s : Sg) : Ite := itOf k s (afterK ch l l.length k).1 (afterK ch l l.length k).2 ((mget (k : Int) (duM m l mi)).getD (bsT m s))
abbrev DotsOk (l : List Sg) : Prop := ∀ (i : Nat) z, l[i]? = some z -> z.Kind = 3 -> ∃ (j : Nat) (p : Sg), i = j + 1 /\ l[j]? = some p /\ ¬ p.Kind = 3
theorem itm_len {m : Mn} {l : List Sg} {ch mi : List Int} (h1 : mkE m l ch = 0) (h2 : duE m l mi = 0) : (itmV m l ch mi).length = ntN l l.length := by
 rw [itmV_y (by unfold itmE; rw [if_pos h1, h2]), itK_nt]
theorem it_get {m : Mn} {l : List Sg} {ch mi : List Int} (h1 : mkE m l ch = 0) (h2 : duE m l mi = 0) (hD : DotsOk l) {k : Nat} {s : Sg} (hs : l[k]? = some s) (h3 : ¬ s.Kind = 3) : (itmV m l ch mi)[ntN l k]? = some (iTM m l ch mi k s) := by
 have hk := (List.getElem?_eq_some_iff.1 hs).1
 have hlt := nt_strict hs h3 hk
 obtain ⟨x, hx⟩ : ∃ x, (itmV m l ch mi)[ntN l k]? = some x := ⟨_, List.getElem?_eq_getElem (by rw [itm_len h1 h2]; exact hlt)⟩
 have hx' := hx
 rw [itmV_y (by unfold itmE; rw [if_pos h1, h2])] at hx
 obtain ⟨j, t, hj, ht, h4, hn, rfl⟩ := it_idx l.length hx
 obtain rfl := nt_inj ht h4 hs h3 hn
 rw [hs] at ht; injection ht with ht; subst ht
 rw [hx']; unfold iTM
 have hat := mkK_at (ch := ch) hD l.length j s hk hs h3
 have hc : (mkC m l ch).getD (ntN l j) 0 = (afterK ch l l.length j).1 := getD_of (by unfold mkC; rw [if_pos h1]; exact hat.1)
 have ha : (mkA m l ch).getD (ntN l j) false = (afterK ch l l.length j).2 := getD_of (by unfold mkA; rw [if_pos h1]; exact hat.2)
 have hd : (duV m l mi).getD (ntN l j) ⟨0, 0⟩ = (mget (j : Int) (duM m l mi)).getD (bsT m s) := getD_of (by unfold duV; rw [if_pos h2]; exact dvK_get hs h3 l.length hk)
 rw [hc, ha, hd]
section
variable {m : Mn} {l : List Sg} {a b d g : List Int} {k : Nat} {s : Sg}
end
end Go.Rse
namespace Go.Rse
open Go Go.Proofs
inductive ChG : List (List Int) -> List Int -> Prop
 | nil : ChG [] []
 | snoc {x : List Int} {R : List (List Int)} {r : List Int} {v : Int} (hv : v ∈ x) (h : ChG R r) : ChG (x :: R) (r ++ [v])
theorem ch_of {L : List (List Int)} {c : List Int} (hl : L.length = c.length) (h : ∀ (i : Nat) x v, L[i]? = some x -> c[i]? = some v -> v ∈ x) : ∀ k, k <= L.length -> ChG (L.take k).reverse (c.take k)
 | 0, _ => by simpa using ChG.nil
 | k + 1, hk => by
  have hx : L[k]? = some L[k] := List.getElem?_eq_getElem (by omega)
  have hv : c[k]? = some c[k] := List.getElem?_eq_getElem (by omega)
  rw [List.take_add_one, List.take_add_one, hx, hv]
  simp only [Option.toList_some, List.reverse_append, List.reverse_cons, List.reverse_nil, List.nil_append, List.cons_append]
  exact .snoc (h k _ _ hx hv) (ch_of hl h k (by omega))
theorem ch_mem {R : List (List Int)} {r : List Int} (hc : ChG R r) : r.length = R.length /\ ∀ (i : Nat) x v, R.reverse[i]? = some x -> r[i]? = some v -> v ∈ x := by
 induction hc with
 | nil => exact ⟨rfl, fun i x v h => by simp at h⟩
 | @snoc x0 R r v0 hv _ ih =>
  refine ⟨by simp [ih.1], fun i x v hx hvv => ?_⟩
  rw [List.reverse_cons, List.getElem?_append] at hx
  rw [List.getElem?_append] at hvv
  simp only [List.length_reverse] at hx
  by_cases hi : i < R.length
  ·rw [if_pos hi] at hx
   rw [if_pos (by omega)] at hvv
   exact ih.2 i x v hx hvv
  ·rw [if_neg hi] at hx
   rw [if_neg (by omega)] at hvv
   have e1 : i - R.length = 0 := by
    have := (List.getElem?_eq_some_iff.1 hx).1
    simp at this; omega
   rw [e1] at hx
   rw [ih.1, e1] at hvv
   simp at hx hvv
   subst hx; subst hvv; exact hv
theorem ch_ok {L : List (List Int)} {r : List Int} (hc : ChG L.reverse r) : L.length = r.length /\ chOk r L := by
 obtain ⟨h1, h2⟩ := ch_mem hc
 rw [List.reverse_reverse] at h2
 exact ⟨by simpa using h1.symm, chOk_iff.2 h2⟩
def TwoOk (x : List Int) (c : Int) : Prop := (∃ a, x = [a] /\ c = a) \/ (∃ a b, x = [a, b] /\ a < b /\ (c = a \/ c = b))
theorem choiceR_two {m : Mn} {l : List Sg} {i : Int} {p : Sg} (hM : ckM m = 0) (h1 : 1 <= p.Value) : TwoOk (mngR m p) (choiceR m l i p) := by
 have ha := aV_rng (m := m) h1
 unfold choiceR mngR
 by_cases hK : p.Kind = 2
 ·simp only [hK, if_true]; exact .inl ⟨_, rfl, by simp⟩
 ·simp only [hK, if_false]
  by_cases hC : p.Color = true
  ·simp only [hC, if_true]; exact .inl ⟨0, rfl, by simp⟩
  ·simp only [hC, if_false]
   by_cases h2 : m.p p.Value = 2 /\ m.aV p.Value = 0
   ·simp only [h2, and_self, if_true]; exact .inl ⟨0, rfl, by simp⟩
   ·rw [if_neg h2]
    by_cases h3 : m.p p.Value = 2
    ·have h4 : ¬ m.aV p.Value = 0 := fun h => h2 ⟨h3, h⟩
     rw [if_pos h3]
     refine .inr ⟨0, m.aV p.Value, rfl, by omega, ?_⟩
     rw [if_neg (by simp)]
     by_cases h5 : nextV l i > p.Value
     ·rw [if_pos h5]; exact .inl (by simp [ownV])
     ·rw [if_neg h5]; exact .inr rfl
    ·rw [if_neg h3]
     by_cases h4 : m.aV p.Value = 0
     ·rw [if_pos h4]; exact .inl ⟨p.Value, rfl, by simp⟩
     ·rw [if_neg h4]
      refine .inr ⟨m.aV p.Value, p.Value, rfl, ha.2, ?_⟩
      rw [if_neg (by simp)]
      by_cases h5 : nextV l i > p.Value
      ·rw [if_pos h5]
       have h6 : ¬ m.aV p.Value = p.Value := by omega
       exact .inr (by simp [ownV, h4, h6])
      ·rw [if_neg h5]; exact .inl rfl
theorem two_ck {m : Mn} {l : List Sg} (hM : ckM m = 0) (hck : ckD m l = 0) {k : Nat} {x : List Int} {c : Int} (hx : (mnsD m l)[k]? = some x) (hc : (ruleD m l)[k]? = some c) : TwoOk x c := by
 rw [mnsD, List.getElem?_map] at hx
 rw [ruleD, List.getElem?_map] at hc
 cases hd : (dotsK l l.length)[k]? with
 | none => simp [hd] at hx
 | some i =>
  simp [hd] at hx hc
  obtain ⟨j, s, p, h1, h2, h3, h4, h5⟩ := dotPrev hck (List.mem_of_getElem? hd)
  obtain ⟨_, _, q1, q2, _, q3⟩ := prevOk hck h2 h3 h4
  unfold mnAt at hx; rw [h5] at hx
  unfold ruleAt at hc; rw [h5] at hc
  have hx : mngs m p = x := hx
  have hc : choice m l i p = c := hc
  rw [← hx, ← hc, choice_R hM q1 q2 q3, q3]
  exact choiceR_two hM q1
theorem rule_len (m : Mn) (l : List Sg) : (ruleD m l).length = (mnsD m l).length := by
 unfold ruleD mnsD; simp
theorem rule_ck {m : Mn} {l : List Sg} (hM : ckM m = 0) (hg : ckD m l = 0) : ChG (mnsD m l).reverse (ruleD m l) := by
 have hlen := rule_len m l
 have h := ch_of (L := mnsD m l) (c := ruleD m l) hlen.symm (fun i x v hx hv => by
  rcases two_ck hM hg hx hv with ⟨a, rfl, rfl⟩ | ⟨a, b, rfl, hab, rfl | rfl⟩ <;> simp) (mnsD m l).length (Nat.le_refl _)
 rwa [List.take_length, ← hlen, List.take_length] at h
end Go.Rse
namespace Go.Rse
open Go Go.Proofs
theorem mnsD_le (m : Mn) (l : List Sg) : (mnsD m l).length <= l.length := by
 unfold mnsD; rw [List.length_map]; exact dotsK_len l l.length
end Go.Rse
namespace Go.Rse
open Go Go.Proofs
def abvK (m : Mn) (v : Int) : Bool := (decide (1 < v) && decide (m.p 1 = 3)) || (decide (2 < v) && decide (m.p 2 = 3)) || (decide (3 < v) && decide (m.p 3 = 3)) || (decide (4 < v) && decide (m.p 4 = 3))
theorem abvK_yes {m : Mn} {v k : Int} (h1 : 1 <= k) (h2 : k < v) (h3 : m.p k = 3) : abvK m v = true := by
 have h4 : k <= 4 := by
  rcases Int.lt_or_le 4 k with h | h
  ·rw [p_big h] at h3; omega
  ·exact h
 have : k = 1 \/ k = 2 \/ k = 3 \/ k = 4 := by omega
 unfold abvK
 rcases this with rfl | rfl | rfl | rfl <;> simp [h2, h3]
theorem abvK_no {m : Mn} {v : Int} (h : ∀ k, 1 <= k -> k < v -> ¬ m.p k = 3) : abvK m v = false := by
 unfold abvK
 have e : ∀ k : Int, 1 <= k -> (decide (k < v) && decide (m.p k = 3)) = false := fun k hk => by
  by_cases h2 : k < v
  ·rw [decide_eq_false (h k hk h2)]; simp
  ·rw [decide_eq_false h2]; rfl
 rw [e 1 (by omega), e 2 (by omega), e 3 (by omega), e 4 (by omega)]; rfl
theorem abvK_aV {m : Mn} {v : Int} (hm : ckM m = 0) (h1 : 1 <= v) (h8 : v <= 8) (h : abvK m v = true) : ¬ m.aV v = 0 := by
 intro ha
 have hv : m.ab v = 0 := by
  have h0 : ckMV m v = 0 := ckMV_0 hm h1 h8
  unfold Mn.aV at ha; rw [if_pos h0] at ha; exact ha
 have key : ∀ k : Int, 1 <= k -> k < v -> ¬ m.p k = 3 := by
  intro k hk1 hk2 hk3
  have : ∃ w, 1 <= w /\ w < v /\ m.p w = 3 /\ ∀ u, w < u -> u < v -> m.p u ≠ 3 := by
   have hind : ∀ n : Nat, ∀ w : Int, 1 <= w -> w < v -> m.p w = 3 -> (v - w).toNat = n -> ∃ w, 1 <= w /\ w < v /\ m.p w = 3 /\ ∀ u, w < u -> u < v -> m.p u ≠ 3 := by
    intro n
    induction n using Nat.strongRecOn with
    | ind n ih =>
     intro w hw1 hw2 hw3 hn
     by_cases hx : ∃ u, w < u /\ u < v /\ m.p u = 3
     ·obtain ⟨u, h1, h2, h3⟩ := hx
      exact ih (v - u).toNat (by omega) u (by omega) h2 h3 rfl
     ·exact ⟨w, hw1, hw2, hw3, fun u h1 h2 h3 => hx ⟨u, h1, h2, h3⟩⟩
   exact hind _ k hk1 hk2 hk3 rfl
  obtain ⟨w, w1, w2, w3, w4⟩ := this
  rw [ab_find w1 w2 w3 w4] at hv; omega
 rw [abvK_no key] at h; exact absurd h (by decide)
def rnV (n : Int) : Int := ([3, 4, 4, 5, 5, 3, 2, 6] : List Int).getD (n % 8).toNat 0
theorem rnV_tab : ∀ k : Fin 8, 2 <= ([3, 4, 4, 5, 5, 3, 2, 6] : List Int).getD k.val 0 /\ ([3, 4, 4, 5, 5, 3, 2, 6] : List Int).getD k.val 0 <= 6 := by decide
theorem rnV_rng (n : Int) : 2 <= rnV n /\ rnV n <= 6 := rnV_tab ⟨(n % 8).toNat, by omega⟩
def rnS (i : Nat) (n : Int) : Sg := if n / 8 % 9 = 0 then ⟨2, rnV n, 0, 0, false, 0, false, false, ⟨0, 0, 0, 0⟩, false, 0, 0, 0, 0⟩
 else ⟨1, rnV n, (i : Int) % 9, 0, decide (n / 8 % 9 = 1) || decide (n / 8 % 9 = 2), 0, false, false, ⟨0, 0, 0, 0⟩, false, 0, 0, 0, 0⟩
def rnK (m : Mn) (nums : List Int) (most : Int) : Nat -> List Sg
 | 0 => []
 | k + 1 => match nums[k]? with
  | some x => if ((rnK m nums most k).length : Int) < most then
   (if x % 504 / 72 = 0 /\ ((rnK m nums most k).length : Int) + 1 < most /\ ((rnS k (x % 504)).Kind = 1 \/ abvK m (rnS k (x % 504)).Value = true)
    then rnK m nums most k ++ [rnS k (x % 504)] ++ [sgDot] else rnK m nums most k ++ [rnS k (x % 504)]) else rnK m nums most k
  | none => rnK m nums most k
def rnL (m : Mn) (nums : List Int) (most : Int) : List Sg := rnK m nums most nums.length
theorem rnK_dot {m : Mn} {nums : List Int} {most : Int} {k : Nat} {x : Int} (hx : nums[k]? = some x) (h : ((rnK m nums most k).length : Int) < most) (hd : x % 504 / 72 = 0 /\ ((rnK m nums most k).length : Int) + 1 < most) (hk : (rnS k (x % 504)).Kind = 1 \/ abvK m (rnS k (x % 504)).Value = true) : rnK m nums most k ++ [rnS k (x % 504)] ++ [sgDot] = rnK m nums most (k + 1) := by
 conv => rhs; unfold rnK
 rw [hx]; simp only [if_pos h, if_pos (show _ /\ _ /\ _ from ⟨hd.1, hd.2, hk⟩)]
theorem rnK_sgn {m : Mn} {nums : List Int} {most : Int} {k : Nat} {x : Int} (hx : nums[k]? = some x) (h : ((rnK m nums most k).length : Int) < most) (hd : ¬ (x % 504 / 72 = 0 /\ ((rnK m nums most k).length : Int) + 1 < most /\ ((rnS k (x % 504)).Kind = 1 \/ abvK m (rnS k (x % 504)).Value = true))) : rnK m nums most k ++ [rnS k (x % 504)] = rnK m nums most (k + 1) := by
 conv => rhs; unfold rnK
 rw [hx]; simp only [if_pos h, if_neg hd]
theorem rnK_full {m : Mn} {nums : List Int} {most : Int} {k : Nat} (h : most <= ((rnK m nums most k).length : Int)) : ∀ d, rnK m nums most (k + d) = rnK m nums most k
 | 0 => rfl
 | d + 1 => by
  show rnK m nums most ((k + d) + 1) = _
  have ih := rnK_full h d
  conv => lhs; unfold rnK
  rw [ih]
  split
  ·rw [if_neg (by omega)]
  ·rfl
theorem rnK_len (m : Mn) (nums : List Int) {most : Int} (h0 : 0 <= most) : ∀ k, ((rnK m nums most k).length : Int) <= most
 | 0 => h0
 | k + 1 => by
  have := rnK_len m nums h0 k
  unfold rnK
  split
  ·split
   ·split <;> simp <;> omega
   ·exact this
  ·exact this
def Gr (m : Mn) (l : List Sg) : Prop := ∀ (i : Nat) s, l[i]? = some s -> ((s.Kind = 1 \/ s.Kind = 2) /\ 1 <= s.Value /\ s.Value <= 8) \/ (s.Kind = 3 /\ ∃ (j : Nat) (p : Sg), i = j + 1 /\ l[j]? = some p /\ (p.Kind = 1 \/ (p.Kind = 2 /\ 1 <= p.Value /\ p.Value <= 8 /\ abvK m p.Value = true)))
theorem Gr.nil (m : Mn) : Gr m [] := fun i s h => by simp at h
theorem Gr.append {m : Mn} {a b : List Sg} (ha : Gr m a) (hb : Gr m b) : Gr m (a ++ b) := fun i s h => by
 rw [List.getElem?_append] at h
 split at h
 ·rename_i hi
  rcases ha i s h with h1 | ⟨h1, j, p, h2, h3, h4⟩
  ·exact .inl h1
  ·exact .inr ⟨h1, j, p, h2, by rw [List.getElem?_append, if_pos (by omega)]; exact h3, h4⟩
 ·rename_i hi
  rcases hb _ s h with h1 | ⟨h1, j, p, h2, h3, h4⟩
  ·exact .inl h1
  ·refine .inr ⟨h1, j + a.length, p, by omega, ?_, h4⟩
   rw [List.getElem?_append, if_neg (by omega), show j + a.length - a.length = j by omega]; exact h3
theorem rnS_kind (i : Nat) (n : Int) : ((rnS i n).Kind = 1 \/ (rnS i n).Kind = 2) /\ 2 <= (rnS i n).Value /\ (rnS i n).Value <= 6 := by
 have := rnV_rng n
 unfold rnS
 split
 ·exact ⟨.inr rfl, this⟩
 ·exact ⟨.inl rfl, this⟩
theorem gr_one {m : Mn} (i : Nat) (n : Int) : Gr m [rnS i n] := fun j s h => by
 cases j with
 | zero =>
  have := rnS_kind i n
  simp at h; subst h; exact .inl ⟨this.1, by omega, by omega⟩
 | succ j => simp at h
theorem gr_two {m : Mn} {i : Nat} {n : Int} (h : (rnS i n).Kind = 1 \/ abvK m (rnS i n).Value = true) : Gr m [rnS i n, sgDot] := fun j s hs => by
 have hk := rnS_kind i n
 cases j with
 | zero => simp at hs; subst hs; exact .inl ⟨hk.1, by omega, by omega⟩
 | succ j =>
  cases j with
  | zero =>
   simp at hs; subst hs
   refine .inr ⟨rfl, 0, rnS i n, rfl, rfl, ?_⟩
   rcases hk.1 with h1 | h1
   ·exact .inl h1
   ·rcases h with h | h
    ·exact .inl h
    ·exact .inr ⟨h1, by omega, by omega, h⟩
  | succ j => simp at hs
theorem rnK_gr (m : Mn) (nums : List Int) (most : Int) : ∀ k, Gr m (rnK m nums most k)
 | 0 => Gr.nil m
 | k + 1 => by
  have ih := rnK_gr m nums most k
  unfold rnK
  split
  ·split
   ·split
    ·rename_i h
     rw [List.append_assoc]
     exact ih.append (gr_two h.2.2)
    ·exact ih.append (gr_one _ _)
   ·exact ih
  ·exact ih
theorem sgR_gr {m : Mn} {l : List Sg} (hm : ckM m = 0) (h : Gr m l) {i : Nat} {s : Sg} (hs : l[i]? = some s) : sgR m l i s = 0 := by
 unfold sgR
 rcases h i s hs with ⟨h1, h2, h3⟩ | ⟨h1, j, p, rfl, h3, h4⟩
 ·rw [if_pos h1, if_pos ⟨h2, h3⟩]
 ·rw [if_neg (by omega), if_pos h1]
  simp only [h3]
  rw [if_neg]
  rcases h4 with h4 | ⟨h4, h5, h6, h7⟩
  ·omega
  ·have := abvK_aV hm (by omega) (by omega) h7
   omega
theorem ckFromR_all {m : Mn} {l : List Sg} (h : ∀ (i : Nat) s, l[i]? = some s -> sgR m l i s = 0) : ∀ (n k : Nat), l.length - k = n -> ckFromR m l k (l.drop k) = 0
 | 0, k, hn => by rw [List.drop_of_length_le (by omega)]; rfl
 | n + 1, k, hn => by
  have hs : l[k]? = some l[k] := List.getElem?_eq_getElem (by omega)
  rw [ckFromR_ok hs (h k _ hs)]
  exact ckFromR_all h n (k + 1) (by omega)
theorem gr_ck {m : Mn} {l : List Sg} (hm : ckM m = 0) (h : Gr m l) : ckD m l = 0 := by
 rw [ckD_R]; unfold ckR; rw [if_pos hm]
 have := ckFromR_all (m := m) (fun i s hs => sgR_gr hm h hs) l.length 0 rfl
 simpa using this
theorem rnL_gr (m : Mn) (nums : List Int) (most : Int) : Gr m (rnL m nums most) := rnK_gr m nums most _
theorem rnL_len (m : Mn) (nums : List Int) {most : Int} (h0 : 0 <= most) : ((rnL m nums most).length : Int) <= most := rnK_len m nums h0 _
theorem rnL_at {m : Mn} {nums : List Int} {most : Int} {k : Nat} (hk : k <= nums.length) (h : (nums.length : Int) <= k \/ most <= ((rnK m nums most k).length : Int)) : rnK m nums most k = rnL m nums most := by
 unfold rnL
 rcases h with h | h
 ·have : k = nums.length := by omega
  rw [this]
 ·have := rnK_full h (nums.length - k)
  rw [show k + (nums.length - k) = nums.length by omega] at this
  exact this.symm
theorem rnV_get (n : Int) : ([3, 4, 4, 5, 5, 3, 2, 6] : List Int)[(n % 8).toNat]? = some (rnV n) := by
 unfold rnV
 rw [List.getD_eq_getElem?_getD, List.getElem?_eq_getElem (by simp; omega)]; rfl
theorem rnK_dotI {m : Mn} {nums : List Int} {most : Int} {k : Nat} {x : Int} {s : Sg} (hS : rnS k (x % 504) = s) (hx : nums[k]? = some x) (h : ((rnK m nums most k).length : Int) < most) (hd : (x % 504 / 72 = 0 /\ ((rnK m nums most k ++ [s]).length : Int) < most) /\ (s.Kind = 1 \/ abvK m s.Value = true)) : rnK m nums most k ++ [s] ++ [sgDot] = rnK m nums most (k + 1) := by
 subst hS
 exact rnK_dot hx h ⟨hd.1.1, by have := hd.1.2; simp at this; omega⟩ hd.2
theorem rnK_sgnI {m : Mn} {nums : List Int} {most : Int} {k : Nat} {x : Int} {s : Sg} (hS : rnS k (x % 504) = s) (hx : nums[k]? = some x) (h : ((rnK m nums most k).length : Int) < most) (hd : (¬ x % 504 / 72 = 0 \/ most <= ((rnK m nums most k ++ [s]).length : Int)) \/ (¬ s.Kind = 1 /\ abvK m s.Value = false)) : rnK m nums most k ++ [s] = rnK m nums most (k + 1) := by
 subst hS
 refine rnK_sgn hx h fun e => ?_
 rcases hd with (h1 | h1) | h1
 ·exact h1 e.1
 ·simp at h1; omega
 ·rcases e.2.2 with h2 | h2
  ·exact h1.1 h2
  ·rw [h1.2] at h2; exact absurd h2 (by decide)
end Go.Rse
namespace Go.Rse
open Go Go.Proofs
end Go.Rse
namespace Go.Rse
open Go Go.Proofs
theorem rule_mk {m : Mn} {l : List Sg} (hM : ckM m = 0) (hck : ckD m l = 0) : mkE m l (ruleD m l) = 0 := by
 unfold mkE; rw [if_pos hck, if_pos (ch_ok (rule_ck hM hck))]
theorem rule_du {m : Mn} {l : List Sg} (hck : ckD m l = 0) : duE m l (twos (prL m l).length) = 0 := by
 unfold duE
 rw [if_pos hck, if_pos ⟨twos_len _, by unfold mnOk twos; rw [List.all_eq_true]; intro x hx; rw [(List.mem_replicate.1 hx).2]; rfl⟩]
theorem gr_dots {m : Mn} {l : List Sg} (h : Gr m l) : ∀ (i : Nat) z, l[i]? = some z -> z.Kind = 3 -> ∃ (j : Nat) (p : Sg), i = j + 1 /\ l[j]? = some p /\ ¬ p.Kind = 3 := fun i z hz h3 => by
 rcases h i z hz with h1 | ⟨_, j, p, h4, h5, h6⟩
 ·omega
 ·exact ⟨j, p, h4, h5, by rcases h6 with h | h <;> omega⟩
end Go.Rse
