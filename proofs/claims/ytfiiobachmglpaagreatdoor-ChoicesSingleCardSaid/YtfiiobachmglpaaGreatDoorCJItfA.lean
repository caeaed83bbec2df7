/-
  Plain: what an item of a run is, by its number.
  Plain: durations of items: what is not colored is in no pair; none is 0.
  Plain: what another meaning changes: items by their signs, pairs by their items.
  Plain: combinations by number rise in the lists' order, and each is had once (for any valid run).
  Plain: a run's combinations, the meanings of dots and pairs as one list.
  Plain: the runs that tactuskit.Run makes of numbers.
  Plain: the runs that tactuskit.RunOf makes of numbers.
  Plain: the rule's combination gives items.
-/
import Derived.Test.YtfiiobachmglpaaGreatDoorCIteA
import Derived.Test.YtfiiobachmglpaaGreatDoorCDotB
import Derived.Test.YtfiiobachmglpaaGreatDoorCJFull1
import Derived.Test.YtfiiobachmglpaaGreatDoorCDurA
import Derived.Test.YtfiiobachmglpaaGreatDoorCJLvlC
set_option linter.unusedSimpArgs false
set_option linter.unusedVariables false
namespace Go.Rse
open Go Go.Proofs
end Go.Rse
namespace Go.Rse
open Go Go.Proofs
theorem isPair_fact {m : Mn} {l : List Sg} {x : Int} (h : isPair m l x = true) : x + 1 < (l.length : Int) /\ clr (l.getD x.toNat default) = true /\ (l.getD x.toNat default).Value = 4 /\ clr (l.getD (x + 1).toNat default) = true /\ (l.getD (x + 1).toNat default).Value = 5 := by
 unfold isPair pairB at h
 simp only [Bool.and_eq_true, decide_eq_true_eq] at h
 obtain ⟨_, ⟨⟨⟨⟨⟨⟨h1, h2⟩, h3⟩, h4⟩, h5⟩, _⟩, _⟩, _⟩ := h
 exact ⟨h1, h2, h3, h4, h5⟩
theorem pairK_mem {m : Mn} {l : List Sg} : ∀ (k : Nat) (x : Int), x ∈ pairK m l k -> isPair m l x = true /\ 0 <= x /\ x < (k : Int)
 | 0, x, h => by unfold pairK at h; simp at h
 | k + 1, x, h => by
  unfold pairK at h
  split at h
  ·rename_i hp
   rcases List.mem_append.1 h with h | h
   ·have := pairK_mem k x h; exact ⟨this.1, by omega, by omega⟩
   ·simp at h; subst h; exact ⟨hp, by omega, by omega⟩
  ·have := pairK_mem k x h; exact ⟨this.1, by omega, by omega⟩
theorem prL_mem {m : Mn} {l : List Sg} {x : Int} (h : x ∈ prL m l) : isPair m l x = true /\ 0 <= x /\ x < (l.length : Int) := by
 unfold prL at h
 split at h
 ·unfold pairL at h; exact pairK_mem _ x h
 ·simp at h
end Go.Rse
namespace Go.Rse
open Go Go.Proofs
section
variable {m : Mn} {l : List Sg} {a b d g : List Int} {k : Nat} {s : Sg}
end
end Go.Rse
namespace Go.Rse
open Go Go.Proofs
def ofG : List (List Int) -> Int -> List Int
 | [], _ => []
 | x :: R, n => ofG R (n / (x.length : Int)) ++ [x.getD (n % (x.length : Int)).toNat 0]
def cntG : List (List Int) -> Int
 | [] => 1
 | x :: R => (x.length : Int) * cntG R
theorem ofG_len : ∀ (R : List (List Int)) (n : Int), (ofG R n).length = R.length
 | [], _ => rfl
 | x :: R, n => by simp [ofG, ofG_len R]
def Asc (x : List Int) : Prop := (∃ a, x = [a]) \/ (∃ a b, x = [a, b] /\ a < b)
theorem Asc.len {x : List Int} (h : Asc x) : x.length = 1 \/ x.length = 2 := by
 rcases h with ⟨a, rfl⟩ | ⟨a, b, rfl, _⟩
 ·exact .inl rfl
 ·exact .inr rfl
theorem cntG_pos : ∀ {R : List (List Int)}, (∀ x ∈ R, Asc x) -> 1 <= cntG R
 | [], _ => by simp [cntG]
 | x :: R, h => by
  have h1 := (h x (by simp)).len
  have h2 := cntG_pos (R := R) fun y hy => h y (by simp [hy])
  simp only [cntG]
  rcases h1 with e | e <;> rw [e] <;> omega
inductive ChG : List (List Int) -> List Int -> Prop
 | nil : ChG [] []
 | snoc {x : List Int} {R : List (List Int)} {r : List Int} {v : Int} (hv : v ∈ x) (h : ChG R r) : ChG (x :: R) (r ++ [v])
theorem ofG_ch : ∀ {R : List (List Int)}, (∀ x ∈ R, Asc x) -> ∀ {n : Int}, 0 <= n -> n < cntG R -> ChG R (ofG R n)
 | [], _, n, _, _ => .nil
 | x :: R, h, n, h0, h1 => by
  have hR : ∀ y ∈ R, Asc y := fun y hy => h y (by simp [hy])
  simp only [cntG] at h1
  simp only [ofG]
  have hl := (h x (by simp)).len
  have hm0 : 0 <= n % (x.length : Int) := Int.emod_nonneg _ (by omega)
  have hm1 : n % (x.length : Int) < (x.length : Int) := Int.emod_lt_of_pos _ (by omega)
  refine .snoc ?_ (ofG_ch hR (Int.ediv_nonneg h0 (by omega)) (Int.ediv_lt_of_lt_mul (by omega) (by rw [Int.mul_comm]; exact h1)))
  rw [List.getD_eq_getElem?_getD, List.getElem?_eq_getElem (by omega)]
  exact List.getElem_mem _
theorem ofRow_G (L : List (List Int)) (n : Int) : ∀ (d j : Nat), j + d = L.length -> ofRow L n L.length = ofG (L.take d).reverse (ofN L n j) ++ ofRow L n j
 | 0, j, h => by
  have : j = L.length := by omega
  subst this; simp [ofG]
 | d + 1, j, h => by
  have hd : L[d]? = some L[d] := List.getElem?_eq_getElem (by omega)
  have hg : L.getD (L.length - 1 - j) [] = L[d] := by
   rw [show L.length - 1 - j = d by omega, List.getD_eq_getElem?_getD, hd]; rfl
  rw [ofRow_G L n d (j + 1) (by omega), List.take_add_one, hd]
  simp only [Option.toList_some, List.reverse_append, List.reverse_cons, List.reverse_nil, List.nil_append, List.cons_append, ofG, ofRow, ofN, ofV, hg, List.append_assoc]
theorem ofD_G (L : List (List Int)) (n : Int) : ofD L n = ofG L.reverse n := by
 have := ofRow_G L n L.length 0 (by omega)
 rw [List.take_length] at this
 simpa [ofD, ofRow, ofN] using this
theorem cntG_append : ∀ (A B : List (List Int)), cntG (A ++ B) = cntG A * cntG B
 | [], B => by simp [cntG]
 | x :: A, B => by simp only [List.cons_append, cntG, cntG_append A B, Int.mul_assoc]
theorem cntG_rev : ∀ (L : List (List Int)), cntG L.reverse = cntG L
 | [] => rfl
 | x :: L => by
  rw [List.reverse_cons, cntG_append, cntG_rev L]
  simp only [cntG, Int.mul_one]; exact Int.mul_comm _ _
theorem cntF_prod : ∀ {L : List (List Int)} {n : Int}, cntF n L <= 64 -> cntF n L = n * cntG L
 | [], n, h => by simp [cntF, cntG]
 | x :: L, n, h => by
  unfold cntF at h ⊢
  split at h
  ·omega
  ·rename_i h1
   rw [if_neg h1, cntF_prod h]
   simp only [cntG, Int.mul_assoc]
theorem cnt_G {m : Mn} {l : List Sg} (h : cntE m l = 0) : cntV m l = cntG (mnsD m l).reverse := by
 have hc := cntE_ck h
 unfold cntE at h
 rw [if_pos hc] at h
 unfold cntV
 rw [if_pos hc]
 by_cases h1 : cntF 1 (mnsD m l) > 64
 ·rw [if_pos h1] at h; simp at h
 ·rw [if_neg h1, cntG_rev, cntF_prod (by omega), Int.one_mul]
theorem ch_mem {R : List (List Int)} {r : List Int} (hc : ChG R r) : r.length = R.length /\ ∀ (i : Nat) x v, R.reverse[i]? = some x -> r[i]? = some v -> v ∈ x := by
 induction hc with
 | nil => exact ⟨rfl, fun i x v h => by simp at h⟩
 | @snoc x0 R r v0 hv _ ih =>
  refine ⟨by simp [ih.1], fun i x v hx hvv => ?_⟩
  rw [List.reverse_cons, List.getElem?_append] at hx
  rw [List.getElem?_append] at hvv
  simp only [List.length_reverse] at hx
  by_cases hi : i < R.length
  ·rw [if_pos hi] at hx
   rw [if_pos (by omega)] at hvv
   exact ih.2 i x v hx hvv
  ·rw [if_neg hi] at hx
   rw [if_neg (by omega)] at hvv
   have e1 : i - R.length = 0 := by
    have := (List.getElem?_eq_some_iff.1 hx).1
    simp at this; omega
   rw [e1] at hx
   rw [ih.1, e1] at hvv
   simp at hx hvv
   subst hx; subst hvv; exact hv
theorem ch_ok {L : List (List Int)} {r : List Int} (hc : ChG L.reverse r) : L.length = r.length /\ chOk r L := by
 obtain ⟨h1, h2⟩ := ch_mem hc
 rw [List.reverse_reverse] at h2
 exact ⟨by simpa using h1.symm, chOk_iff.2 h2⟩
def TwoOk (x : List Int) (c : Int) : Prop := (∃ a, x = [a] /\ c = a) \/ (∃ a b, x = [a, b] /\ a < b /\ (c = a \/ c = b))
theorem choiceR_two {m : Mn} {l : List Sg} {i : Int} {p : Sg} (hM : ckM m = 0) (h1 : 1 <= p.Value) : TwoOk (mngR m p) (choiceR m l i p) := by
 have ha := aV_rng (m := m) h1
 unfold choiceR mngR
 by_cases hK : p.Kind = 2
 ·simp only [hK, if_true]; exact .inl ⟨_, rfl, by simp⟩
 ·simp only [hK, if_false]
  by_cases hC : p.Color = true
  ·simp only [hC, if_true]; exact .inl ⟨0, rfl, by simp⟩
  ·simp only [hC, if_false]
   by_cases h2 : m.p p.Value = 2 /\ m.aV p.Value = 0
   ·simp only [h2, and_self, if_true]; exact .inl ⟨0, rfl, by simp⟩
   ·rw [if_neg h2]
    by_cases h3 : m.p p.Value = 2
    ·have h4 : ¬ m.aV p.Value = 0 := fun h => h2 ⟨h3, h⟩
     rw [if_pos h3]
     refine .inr ⟨0, m.aV p.Value, rfl, by omega, ?_⟩
     rw [if_neg (by simp)]
     by_cases h5 : nextV l i > p.Value
     ·rw [if_pos h5]; exact .inl (by simp [ownV])
     ·rw [if_neg h5]; exact .inr rfl
    ·rw [if_neg h3]
     by_cases h4 : m.aV p.Value = 0
     ·rw [if_pos h4]; exact .inl ⟨p.Value, rfl, by simp⟩
     ·rw [if_neg h4]
      refine .inr ⟨m.aV p.Value, p.Value, rfl, ha.2, ?_⟩
      rw [if_neg (by simp)]
      by_cases h5 : nextV l i > p.Value
      ·rw [if_pos h5]
       have h6 : ¬ m.aV p.Value = p.Value := by omega
       exact .inr (by simp [ownV, h4, h6])
      ·rw [if_neg h5]; exact .inl rfl
theorem two_ck {m : Mn} {l : List Sg} (hM : ckM m = 0) (hck : ckD m l = 0) {k : Nat} {x : List Int} {c : Int} (hx : (mnsD m l)[k]? = some x) (hc : (ruleD m l)[k]? = some c) : TwoOk x c := by
 rw [mnsD, List.getElem?_map] at hx
 rw [ruleD, List.getElem?_map] at hc
 cases hd : (dotsK l l.length)[k]? with
 | none => simp [hd] at hx
 | some i =>
  simp [hd] at hx hc
  obtain ⟨j, s, p, h1, h2, h3, h4, h5⟩ := dotPrev hck (List.mem_of_getElem? hd)
  obtain ⟨_, _, q1, q2, _, q3⟩ := prevOk hck h2 h3 h4
  unfold mnAt at hx; rw [h5] at hx
  unfold ruleAt at hc; rw [h5] at hc
  have hx : mngs m p = x := hx
  have hc : choice m l i p = c := hc
  rw [← hx, ← hc, choice_R hM q1 q2 q3, q3]
  exact choiceR_two hM q1
theorem rule_len (m : Mn) (l : List Sg) : (ruleD m l).length = (mnsD m l).length := by
 unfold ruleD mnsD; simp
theorem asc_ck {m : Mn} {l : List Sg} (hM : ckM m = 0) (hg : ckD m l = 0) : ∀ x ∈ (mnsD m l).reverse, Asc x := by
 intro x hx
 rw [List.mem_reverse] at hx
 obtain ⟨k, hk⟩ := List.mem_iff_getElem?.1 hx
 have hlen := rule_len m l
 obtain ⟨c, hc⟩ : ∃ c, (ruleD m l)[k]? = some c := ⟨_, List.getElem?_eq_getElem (by have := (List.getElem?_eq_some_iff.1 hk).1; omega)⟩
 rcases two_ck hM hg hk hc with ⟨a, rfl, _⟩ | ⟨a, b, rfl, hab, _⟩
 ·exact .inl ⟨a, rfl⟩
 ·exact .inr ⟨a, b, rfl, hab⟩
end Go.Rse
namespace Go.Rse
open Go Go.Proofs
def rP (m : Mn) (l : List Sg) : List (List Int) := List.replicate (prL m l).length [1, 2] ++ (mnsD m l).reverse
theorem cntG_two : ∀ P : Nat, cntG (List.replicate P [1, 2]) = 2 ^ P
 | 0 => rfl
 | P + 1 => by
  rw [List.replicate_succ]
  show 2 * cntG (List.replicate P [1, 2]) = _
  rw [cntG_two P, Int.pow_succ, Int.mul_comm]
theorem asc_rP {m : Mn} {l : List Sg} (hM : ckM m = 0) (hck : ckD m l = 0) : ∀ x ∈ rP m l, Asc x := fun x hx => by
 unfold rP at hx
 rcases List.mem_append.1 hx with h | h
 ·obtain ⟨_, rfl⟩ := List.mem_replicate.1 h
  exact .inr ⟨1, 2, rfl, by decide⟩
 ·exact asc_ck hM hck x h
theorem cnt_rP {m : Mn} {l : List Sg} (h : ictE m l = 0) : ictV m l = cntG (rP m l) := by
 obtain ⟨hck, a, b, q2, q3, hV, h64, hc⟩ := ict_0 h
 unfold rP
 rw [cntG_append, cntG_two, hV, q3, cnt_G a, Int.mul_comm]
theorem iof_ok {m : Mn} {l : List Sg} (h : ictE m l = 0) {i : Nat} (hi : (i : Int) < ictV m l) : iofE m l (i : Int) = 0 := by
 unfold iofE; rw [if_pos h, if_neg (by omega)]
theorem iofD_lk {m : Mn} {l : List Sg} {n : Int} (h : iofE m l n = 0) : (iofD m l n).length = (mnsD m l).length := by
 unfold iofD; rw [if_pos h, ofD_G, ofG_len]; simp
theorem iofM_lk {m : Mn} {l : List Sg} {n : Int} (h : iofE m l n = 0) : (iofM m l n).length = (prL m l).length := by
 unfold iofM; rw [if_pos h, digP_len]
theorem digP_ok (n : Int) (K j : Nat) : mnOk (digP n K j) = true := by
 unfold mnOk digP
 rw [List.all_eq_true]
 intro x hx
 obtain ⟨i, _, rfl⟩ := List.mem_map.1 hx
 unfold dig
 split <;> simp
theorem itm_ok {m : Mn} {l : List Sg} (hM : ckM m = 0) (hck : ckD m l = 0) {n : Int} (he : iofE m l n = 0) : itmE m l (iofD m l n) (iofM m l n) = 0 := by
 obtain ⟨hE, h0, h1⟩ := iof_0 he
 obtain ⟨_, a, b, q2, q3, hV, h64, hc⟩ := ict_0 hE
 have hmk : mkE m l (iofD m l n) = 0 := by
  have hq0 : 0 <= n / 2 ^ (prL m l).length := Int.ediv_nonneg h0 (by have := pow2_tab q2; omega)
  have hq1 : n / 2 ^ (prL m l).length < cntV m l := Int.ediv_lt_of_lt_mul (by have := pow2_tab q2; omega) (by rw [← q3, ← hV]; exact h1)
  have h := ch_ok (ofG_ch (asc_ck hM hck) hq0 (by rw [← cnt_G a]; exact hq1))
  unfold mkE iofD
  rw [if_pos hck, if_pos he, ofD_G, if_pos h]
 have hdu : duE m l (iofM m l n) = 0 := by
  unfold duE
  rw [if_pos hck, if_pos ⟨iofM_lk he, by unfold iofM; rw [if_pos he]; exact digP_ok _ _ _⟩]
 unfold itmE
 rw [if_pos hmk, hdu]
theorem ict_rng {m : Mn} {l : List Sg} (hM : ckM m = 0) (h : ictE m l = 0) : 1 <= ictV m l /\ ictV m l <= 64 := by
 have h0 := ict_0 h
 exact ⟨by rw [cnt_rP h]; exact cntG_pos (asc_rP hM h0.1), h0.2.2.2.2.2.2.1⟩
theorem mnsD_le (m : Mn) (l : List Sg) : (mnsD m l).length <= l.length := by
 unfold mnsD; rw [List.length_map]; exact dotsK_len l l.length
end Go.Rse
namespace Go.Rse
open Go Go.Proofs
def abvK (m : Mn) (v : Int) : Bool := (decide (1 < v) && decide (m.p 1 = 3)) || (decide (2 < v) && decide (m.p 2 = 3)) || (decide (3 < v) && decide (m.p 3 = 3)) || (decide (4 < v) && decide (m.p 4 = 3))
theorem abvK_yes {m : Mn} {v k : Int} (h1 : 1 <= k) (h2 : k < v) (h3 : m.p k = 3) : abvK m v = true := by
 have h4 : k <= 4 := by
  rcases Int.lt_or_le 4 k with h | h
  ·rw [p_big h] at h3; omega
  ·exact h
 have : k = 1 \/ k = 2 \/ k = 3 \/ k = 4 := by omega
 unfold abvK
 rcases this with rfl | rfl | rfl | rfl <;> simp [h2, h3]
theorem abvK_no {m : Mn} {v : Int} (h : ∀ k, 1 <= k -> k < v -> ¬ m.p k = 3) : abvK m v = false := by
 unfold abvK
 have e : ∀ k : Int, 1 <= k -> (decide (k < v) && decide (m.p k = 3)) = false := fun k hk => by
  by_cases h2 : k < v
  ·rw [decide_eq_false (h k hk h2)]; simp
  ·rw [decide_eq_false h2]; rfl
 rw [e 1 (by omega), e 2 (by omega), e 3 (by omega), e 4 (by omega)]; rfl
theorem abvK_aV {m : Mn} {v : Int} (hm : ckM m = 0) (h1 : 1 <= v) (h8 : v <= 8) (h : abvK m v = true) : ¬ m.aV v = 0 := by
 intro ha
 have hv : m.ab v = 0 := by
  have h0 : ckMV m v = 0 := ckMV_0 hm h1 h8
  unfold Mn.aV at ha; rw [if_pos h0] at ha; exact ha
 have key : ∀ k : Int, 1 <= k -> k < v -> ¬ m.p k = 3 := by
  intro k hk1 hk2 hk3
  have : ∃ w, 1 <= w /\ w < v /\ m.p w = 3 /\ ∀ u, w < u -> u < v -> m.p u ≠ 3 := by
   have hind : ∀ n : Nat, ∀ w : Int, 1 <= w -> w < v -> m.p w = 3 -> (v - w).toNat = n -> ∃ w, 1 <= w /\ w < v /\ m.p w = 3 /\ ∀ u, w < u -> u < v -> m.p u ≠ 3 := by
    intro n
    induction n using Nat.strongRecOn with
    | ind n ih =>
     intro w hw1 hw2 hw3 hn
     by_cases hx : ∃ u, w < u /\ u < v /\ m.p u = 3
     ·obtain ⟨u, h1, h2, h3⟩ := hx
      exact ih (v - u).toNat (by omega) u (by omega) h2 h3 rfl
     ·exact ⟨w, hw1, hw2, hw3, fun u h1 h2 h3 => hx ⟨u, h1, h2, h3⟩⟩
   exact hind _ k hk1 hk2 hk3 rfl
  obtain ⟨w, w1, w2, w3, w4⟩ := this
  rw [ab_find w1 w2 w3 w4] at hv; omega
 rw [abvK_no key] at h; exact absurd h (by decide)
def rnV (n : Int) : Int := ([3, 4, 4, 5, 5, 3, 2, 6] : List Int).getD (n % 8).toNat 0
theorem rnV_tab : ∀ k : Fin 8, 2 <= ([3, 4, 4, 5, 5, 3, 2, 6] : List Int).getD k.val 0 /\ ([3, 4, 4, 5, 5, 3, 2, 6] : List Int).getD k.val 0 <= 6 := by decide
theorem rnV_rng (n : Int) : 2 <= rnV n /\ rnV n <= 6 := rnV_tab ⟨(n % 8).toNat, by omega⟩
def rnS (i : Nat) (n : Int) : Sg := if n / 8 % 9 = 0 then ⟨2, rnV n, 0, 0, false, 0, false, false, ⟨0, 0, 0, 0⟩, false, 0, 0, 0, 0⟩
 else ⟨1, rnV n, (i : Int) % 9, 0, decide (n / 8 % 9 = 1) || decide (n / 8 % 9 = 2), 0, false, false, ⟨0, 0, 0, 0⟩, false, 0, 0, 0, 0⟩
def rnK (m : Mn) (nums : List Int) (most : Int) : Nat -> List Sg
 | 0 => []
 | k + 1 => match nums[k]? with
  | some x => if ((rnK m nums most k).length : Int) < most then
   (if x % 504 / 72 = 0 /\ ((rnK m nums most k).length : Int) + 1 < most /\ ((rnS k (x % 504)).Kind = 1 \/ abvK m (rnS k (x % 504)).Value = true)
    then rnK m nums most k ++ [rnS k (x % 504)] ++ [sgDot] else rnK m nums most k ++ [rnS k (x % 504)]) else rnK m nums most k
  | none => rnK m nums most k
def rnL (m : Mn) (nums : List Int) (most : Int) : List Sg := rnK m nums most nums.length
theorem rnK_dot {m : Mn} {nums : List Int} {most : Int} {k : Nat} {x : Int} (hx : nums[k]? = some x) (h : ((rnK m nums most k).length : Int) < most) (hd : x % 504 / 72 = 0 /\ ((rnK m nums most k).length : Int) + 1 < most) (hk : (rnS k (x % 504)).Kind = 1 \/ abvK m (rnS k (x % 504)).Value = true) : rnK m nums most k ++ [rnS k (x % 504)] ++ [sgDot] = rnK m nums most (k + 1) := by
 conv => rhs; unfold rnK
 rw [hx]; simp only [if_pos h, if_pos (show _ /\ _ /\ _ from ⟨hd.1, hd.2, hk⟩)]
theorem rnK_sgn {m : Mn} {nums : List Int} {most : Int} {k : Nat} {x : Int} (hx : nums[k]? = some x) (h : ((rnK m nums most k).length : Int) < most) (hd : ¬ (x % 504 / 72 = 0 /\ ((rnK m nums most k).length : Int) + 1 < most /\ ((rnS k (x % 504)).Kind = 1 \/ abvK m (rnS k (x % 504)).Value = true))) : rnK m nums most k ++ [rnS k (x % 504)] = rnK m nums most (k + 1) := by
 conv => rhs; unfold rnK
 rw [hx]; simp only [if_pos h, if_neg hd]
theorem rnK_full {m : Mn} {nums : List Int} {most : Int} {k : Nat} (h : most <= ((rnK m nums most k).length : Int)) : ∀ d, rnK m nums most (k + d) = rnK m nums most k
 | 0 => rfl
 | d + 1 => by
  show rnK m nums most ((k + d) + 1) = _
  have ih := rnK_full h d
  conv => lhs; unfold rnK
  rw [ih]
  split
  ·rw [if_neg (by omega)]
  ·rfl
theorem rnK_len (m : Mn) (nums : List Int) {most : Int} (h0 : 0 <= most) : ∀ k, ((rnK m nums most k).length : Int) <= most
 | 0 => h0
 | k + 1 => by
  have := rnK_len m nums h0 k
  unfold rnK
  split
  ·split
   ·split <;> simp <;> omega
   ·exact this
  ·exact this
def Gr (m : Mn) (l : List Sg) : Prop := ∀ (i : Nat) s, l[i]? = some s -> ((s.Kind = 1 \/ s.Kind = 2) /\ 1 <= s.Value /\ s.Value <= 8) \/ (s.Kind = 3 /\ ∃ (j : Nat) (p : Sg), i = j + 1 /\ l[j]? = some p /\ (p.Kind = 1 \/ (p.Kind = 2 /\ 1 <= p.Value /\ p.Value <= 8 /\ abvK m p.Value = true)))
theorem Gr.nil (m : Mn) : Gr m [] := fun i s h => by simp at h
theorem Gr.append {m : Mn} {a b : List Sg} (ha : Gr m a) (hb : Gr m b) : Gr m (a ++ b) := fun i s h => by
 rw [List.getElem?_append] at h
 split at h
 ·rename_i hi
  rcases ha i s h with h1 | ⟨h1, j, p, h2, h3, h4⟩
  ·exact .inl h1
  ·exact .inr ⟨h1, j, p, h2, by rw [List.getElem?_append, if_pos (by omega)]; exact h3, h4⟩
 ·rename_i hi
  rcases hb _ s h with h1 | ⟨h1, j, p, h2, h3, h4⟩
  ·exact .inl h1
  ·refine .inr ⟨h1, j + a.length, p, by omega, ?_, h4⟩
   rw [List.getElem?_append, if_neg (by omega), show j + a.length - a.length = j by omega]; exact h3
theorem rnS_kind (i : Nat) (n : Int) : ((rnS i n).Kind = 1 \/ (rnS i n).Kind = 2) /\ 2 <= (rnS i n).Value /\ (rnS i n).Value <= 6 := by
 have := rnV_rng n
 unfold rnS
 split
 ·exact ⟨.inr rfl, this⟩
 ·exact ⟨.inl rfl, this⟩
theorem gr_one {m : Mn} (i : Nat) (n : Int) : Gr m [rnS i n] := fun j s h => by
 cases j with
 | zero =>
  have := rnS_kind i n
  simp at h; subst h; exact .inl ⟨this.1, by omega, by omega⟩
 | succ j => simp at h
theorem gr_two {m : Mn} {i : Nat} {n : Int} (h : (rnS i n).Kind = 1 \/ abvK m (rnS i n).Value = true) : Gr m [rnS i n, sgDot] := fun j s hs => by
 have hk := rnS_kind i n
 cases j with
 | zero => simp at hs; subst hs; exact .inl ⟨hk.1, by omega, by omega⟩
 | succ j =>
  cases j with
  | zero =>
   simp at hs; subst hs
   refine .inr ⟨rfl, 0, rnS i n, rfl, rfl, ?_⟩
   rcases hk.1 with h1 | h1
   ·exact .inl h1
   ·rcases h with h | h
    ·exact .inl h
    ·exact .inr ⟨h1, by omega, by omega, h⟩
  | succ j => simp at hs
theorem rnK_gr (m : Mn) (nums : List Int) (most : Int) : ∀ k, Gr m (rnK m nums most k)
 | 0 => Gr.nil m
 | k + 1 => by
  have ih := rnK_gr m nums most k
  unfold rnK
  split
  ·split
   ·split
    ·rename_i h
     rw [List.append_assoc]
     exact ih.append (gr_two h.2.2)
    ·exact ih.append (gr_one _ _)
   ·exact ih
  ·exact ih
theorem sgR_gr {m : Mn} {l : List Sg} (hm : ckM m = 0) (h : Gr m l) {i : Nat} {s : Sg} (hs : l[i]? = some s) : sgR m l i s = 0 := by
 unfold sgR
 rcases h i s hs with ⟨h1, h2, h3⟩ | ⟨h1, j, p, rfl, h3, h4⟩
 ·rw [if_pos h1, if_pos ⟨h2, h3⟩]
 ·rw [if_neg (by omega), if_pos h1]
  simp only [h3]
  rw [if_neg]
  rcases h4 with h4 | ⟨h4, h5, h6, h7⟩
  ·omega
  ·have := abvK_aV hm (by omega) (by omega) h7
   omega
theorem ckFromR_all {m : Mn} {l : List Sg} (h : ∀ (i : Nat) s, l[i]? = some s -> sgR m l i s = 0) : ∀ (n k : Nat), l.length - k = n -> ckFromR m l k (l.drop k) = 0
 | 0, k, hn => by rw [List.drop_of_length_le (by omega)]; rfl
 | n + 1, k, hn => by
  have hs : l[k]? = some l[k] := List.getElem?_eq_getElem (by omega)
  rw [ckFromR_ok hs (h k _ hs)]
  exact ckFromR_all h n (k + 1) (by omega)
theorem gr_ck {m : Mn} {l : List Sg} (hm : ckM m = 0) (h : Gr m l) : ckD m l = 0 := by
 rw [ckD_R]; unfold ckR; rw [if_pos hm]
 have := ckFromR_all (m := m) (fun i s hs => sgR_gr hm h hs) l.length 0 rfl
 simpa using this
theorem rnL_gr (m : Mn) (nums : List Int) (most : Int) : Gr m (rnL m nums most) := rnK_gr m nums most _
theorem rnL_len (m : Mn) (nums : List Int) {most : Int} (h0 : 0 <= most) : ((rnL m nums most).length : Int) <= most := rnK_len m nums h0 _
theorem rnL_at {m : Mn} {nums : List Int} {most : Int} {k : Nat} (hk : k <= nums.length) (h : (nums.length : Int) <= k \/ most <= ((rnK m nums most k).length : Int)) : rnK m nums most k = rnL m nums most := by
 unfold rnL
 rcases h with h | h
 ·have : k = nums.length := by omega
  rw [this]
 ·have := rnK_full h (nums.length - k)
  rw [show k + (nums.length - k) = nums.length by omega] at this
  exact this.symm
theorem rnV_get (n : Int) : ([3, 4, 4, 5, 5, 3, 2, 6] : List Int)[(n % 8).toNat]? = some (rnV n) := by
 unfold rnV
 rw [List.getD_eq_getElem?_getD, List.getElem?_eq_getElem (by simp; omega)]; rfl
theorem rnK_dotI {m : Mn} {nums : List Int} {most : Int} {k : Nat} {x : Int} {s : Sg} (hS : rnS k (x % 504) = s) (hx : nums[k]? = some x) (h : ((rnK m nums most k).length : Int) < most) (hd : (x % 504 / 72 = 0 /\ ((rnK m nums most k ++ [s]).length : Int) < most) /\ (s.Kind = 1 \/ abvK m s.Value = true)) : rnK m nums most k ++ [s] ++ [sgDot] = rnK m nums most (k + 1) := by
 subst hS
 exact rnK_dot hx h ⟨hd.1.1, by have := hd.1.2; simp at this; omega⟩ hd.2
theorem rnK_sgnI {m : Mn} {nums : List Int} {most : Int} {k : Nat} {x : Int} {s : Sg} (hS : rnS k (x % 504) = s) (hx : nums[k]? = some x) (h : ((rnK m nums most k).length : Int) < most) (hd : (¬ x % 504 / 72 = 0 \/ most <= ((rnK m nums most k ++ [s]).length : Int)) \/ (¬ s.Kind = 1 /\ abvK m s.Value = false)) : rnK m nums most k ++ [s] = rnK m nums most (k + 1) := by
 subst hS
 refine rnK_sgn hx h fun e => ?_
 rcases hd with (h1 | h1) | h1
 ·exact h1 e.1
 ·simp at h1; omega
 ·rcases e.2.2 with h2 | h2
  ·exact h1.1 h2
  ·rw [h1.2] at h2; exact absurd h2 (by decide)
end Go.Rse
namespace Go.Rse
open Go Go.Proofs
end Go.Rse
namespace Go.Rse
open Go Go.Proofs
end Go.Rse
namespace Go.Rse
open Go Go.Proofs
attribute [local irreducible] Pur StepA StepM Ex X Fn Imp LeV LeB FnO It YStep
attribute [local irreducible] mkC mkA mkE duV duE itK itOf ckD mulV mulE
set_option maxHeartbeats 4000000 in
theorem C_item_Items (m : Mn) (l : List Sg) (ch mi : List Int) (hl : l.length <= 1000) (hmi : mi.length <= 1000) : Fn Tryz.prog 33 [mnA m, sgsA l, intsA ch, intsA mi] (.tup [itsA (itmV m l ch mi), iv (itmE m l ch mi)]) := by
 refine Fn.go Tryz.func33 Tryz.ntmps33 (fun g w d => ?_)
 apply X.sr
 refine Ex.ba ?_
 iterate 2 refine Ex.pu ?_
 apply Ex.nil
 apply X.seq
 apply X.sr
 iterate 2 refine Ex.pu ?_
 refine Ex.ca (C_dot_Check m l hl) ?_
 refine Ex.pu ?_
 apply Ex.ns
 iterate 2 refine Ex.pu ?_
 apply Ex.nil
 refine X.cd rfl (fun hc1 => ?_) (fun hc1 => ?_)
 ·have hE : itmE m l ch mi = ckD m l := by rw [itmE_a (by rw [mkE_ck hc1]; exact hc1), mkE_ck hc1]
  have hV : itmV m l ch mi = [] := itmV_n (by rw [hE]; exact hc1)
  apply X.sr
  iterate 3 refine Ex.pu ?_
  apply Ex.nil
  refine X.ret ?_
  refine RetQ.imp (Imp.au (ts := [(8, itsA []), (9, iv (ckD m l))]) (hs := [])) ?_
  refine RetQ.ret (.many (by decide) (.cons (.tmp rfl (LeV.eq ?_)) (.cons (.tmp rfl (LeV.eq ?_)) .nil)))
  all_goals (first | (rw [hV]; done) | (rw [hE]; done) | (rw [hV]; rfl) | (rw [hE]; rfl))
 apply X.skip
 apply X.sr
 iterate 3 refine Ex.pu ?_
 refine Ex.ca (C_dot_Marks m l hl ch) ?_
 iterate 7 refine Ex.pu ?_
 apply Ex.nil
 apply X.seq
 apply X.sr
 iterate 2 refine Ex.pu ?_
 apply Ex.nil
 refine X.cd rfl (fun hc2 => ?_) (fun hc2 => ?_)
 ·have hE : itmE m l ch mi = mkE m l ch := itmE_a hc2
  have hV : itmV m l ch mi = [] := itmV_n (by rw [hE]; exact hc2)
  apply X.sr
  iterate 3 refine Ex.pu ?_
  apply Ex.nil
  refine X.ret ?_
  refine RetQ.imp (Imp.au (ts := [(8, itsA []), (9, iv (mkE m l ch))]) (hs := [])) ?_
  refine RetQ.ret (.many (by decide) (.cons (.tmp rfl (LeV.eq ?_)) (.cons (.tmp rfl (LeV.eq ?_)) .nil)))
  all_goals (first | (rw [hV]; done) | (rw [hE]; done) | (rw [hV]; rfl) | (rw [hE]; rfl))
 apply X.skip
 apply X.sr
 iterate 3 refine Ex.pu ?_
 refine Ex.ca (C_color_Durs m l mi hl hmi) ?_
 iterate 5 refine Ex.pu ?_
 apply Ex.nil
 apply X.seq
 apply X.sr
 iterate 2 refine Ex.pu ?_
 apply Ex.nil
 refine X.cd rfl (fun hc3 => ?_) (fun hc3 => ?_)
 ·have hE : itmE m l ch mi = duE m l mi := itmE_b hc2
  have hV : itmV m l ch mi = [] := itmV_n (by rw [hE]; exact hc3)
  apply X.sr
  iterate 3 refine Ex.pu ?_
  apply Ex.nil
  refine X.ret ?_
  refine RetQ.imp (Imp.au (ts := [(8, itsA []), (9, iv (duE m l mi))]) (hs := [])) ?_
  refine RetQ.ret (.many (by decide) (.cons (.tmp rfl (LeV.eq ?_)) (.cons (.tmp rfl (LeV.eq ?_)) .nil)))
  all_goals (first | (rw [hV]; done) | (rw [hE]; done) | (rw [hV]; rfl) | (rw [hE]; rfl))
 have hE : itmE m l ch mi = 0 := (itmE_b hc2).trans hc3
 have hV := itmV_y hE
 apply X.skip
 apply X.sr
 refine Ex.pu ?_
 apply Ex.nil
 apply X.seq
 apply X.seq
 refine X.imp (Imp.mkrow itE 62 12 15 201 rfl rfl) ?_
 apply X.region
 iterate 3 refine Ex.pu ?_
 apply Ex.nil
 apply X.block
 have hr0 := itK_0 l (mkC m l ch) (mkA m l ch) (duV m l mi)
 refine X.lp (ι := Nat) (fun (k : Nat) => [(11, intsA (mkC m l ch)), (12, boolsA (mkA m l ch)), (14, tmsA (duV m l mi)), (15, .own 201), (47, sgsA l), (48, iv l.length), (49, iv (k : Int))]) (fun (k : Nat) => [(201, .row itE (itK l (mkC m l ch) (mkA m l ch) (duV m l mi) k) 62 12)]) (fun (k : Nat) => k <= l.length) (fun (k : Nat) => l.length - k) 0 (fun k hk => ?_)
 apply X.sr
 refine Ex.pu ?_
 apply Ex.nil
 apply X.seq
 refine X.cd rfl (fun hc4 => ?_) (fun hc4 => ?_)
 ·obtain ⟨s, hs⟩ : ∃ s, l[k]? = some s := ⟨_, List.getElem?_eq_getElem (by omega)⟩
  have hs2 : l[(k : Int).toNat]? = some s := by simpa using hs
  have hnt := itK_nt l (mkC m l ch) (mkA m l ch) (duV m l mi) k
  have hnl := ntN_le l k
  apply X.skip
  apply X.seq
  apply X.block
  apply X.sr
  iterate 3 refine Ex.pu ?_
  refine Ex.al ?_
  refine Ex.pu ?_
  refine Ex.mo ?_
  apply Ex.nil
  apply X.seq
  apply X.sr
  iterate 3 refine Ex.pu ?_
  apply Ex.nil
  refine X.cd rfl (fun hc5 => ?_) (fun hc5 => ?_)
  ·have hst := itK_dot (c := mkC m l ch) (a := mkA m l ch) (d := duV m l mi) hs hc5
   apply X.exit
   apply X.region
   iterate 2 refine Ex.pu ?_
   apply Ex.nil
   refine X.bk (k + 1)
  obtain ⟨x, y, z, hx, hy, hz, hmul, hlt, hm, v1, v8⟩ := it_at hc2 hc3 hs hc5
  have hst := itK_nr hs hc5 hx hy hz
  have hx2 : (mkC m l ch)[((itK l (mkC m l ch) (mkA m l ch) (duV m l mi) k).length : Int).toNat]? = some x := by rw [hnt]; simpa using hx
  have hy2 : (mkA m l ch)[((itK l (mkC m l ch) (mkA m l ch) (duV m l mi) k).length : Int).toNat]? = some y := by rw [hnt]; simpa using hy
  have hz2 : (duV m l mi)[((itK l (mkC m l ch) (mkA m l ch) (duV m l mi) k).length : Int).toNat]? = some z := by rw [hnt]; simpa using hz
  apply X.skip
  apply X.sr
  iterate 3 refine Ex.pu ?_
  apply Ex.nil
  refine X.seqJ ⟨[(11, intsA (mkC m l ch)), (12, boolsA (mkA m l ch)), (14, tmsA (duV m l mi)), (15, .own 201), (18, iv ((itK l (mkC m l ch) (mkA m l ch) (duV m l mi) k).length : Int)), (19, .ptr 19 0 0 0), (47, sgsA l), (48, iv l.length), (49, iv (k : Int))], [(201, .row itE (itK l (mkC m l ch) (mkA m l ch) (duV m l mi) k) 62 12), (19, .box [iv k, iv s.Value, .bool (decide (s.Kind = 2)), .bool (decide (s.Kind = 1) && s.Color), .bool false, iv x, iv z.N, iv z.D, iv 0, iv 0, iv 0, iv 0] 62)]⟩ (fun hJ17 => ?_) ?_
  ·refine X.dw [19,59,60,61,62,63,64,65,66,67,68,69,70,71,72,73,74,75,76,77,78,79,80] [0,0,2,0,8,24,0,64,192,448,960,1984,4032,0,0,24576,57344,0,0,393216,917504,2097151,0,8388607] mo ?_
   iterate 10 refine ChM.pu ?_
   iterate 2 refine ChM.gi ?_
   iterate 10 refine ChM.pu ?_
   refine ChM.step rfl rfl rfl (A_alloc (k := 19) zc62) rfl ?_
   refine ChM.tl ?_
   refine Ex.mo ?_
   apply Ex.nil
   exact X.imp Imp.ax hJ17
  refine X.seqJ ⟨[(11, intsA (mkC m l ch)), (12, boolsA (mkA m l ch)), (14, tmsA (duV m l mi)), (15, .own 201), (18, iv ((itK l (mkC m l ch) (mkA m l ch) (duV m l mi) k).length : Int)), (19, .ptr 19 0 0 0), (47, sgsA l), (48, iv l.length), (49, iv (k : Int))], [(201, .row itE (itK l (mkC m l ch) (mkA m l ch) (duV m l mi) k) 62 12), (19, .box [iv k, iv s.Value, .bool (decide (s.Kind = 2)), .bool (decide (s.Kind = 1) && s.Color), .bool false, iv x, iv z.N, iv z.D, iv 0, iv 1, iv 0, iv 1] 62)]⟩ (fun hJ18 => ?_) ?_
  ·apply X.region
   iterate 3 refine Ex.pu ?_
   refine Ex.mo ?_
   refine Ex.pu ?_
   refine Ex.mo ?_
   apply Ex.nil
   exact X.imp Imp.ax hJ18
  apply X.seq
  apply X.block
  apply X.seq
  apply X.block
  apply X.seq
  apply X.block
  apply X.seq
  apply X.seq
  apply X.sr
  iterate 5 refine Ex.pu ?_
  apply Ex.nil
  refine X.cd rfl (fun hc6 => ?_) (fun hc6 => ?_)
  ·rw [← itL_a hc6] at hst
   apply X.exit
   apply X.sr
   iterate 3 refine Ex.pu ?_
   refine Ex.ca (C_span_Mul z ⟨3, 2⟩) ?_
   iterate 4 refine Ex.pu ?_
   refine Ex.mo ?_
   refine Ex.pu ?_
   apply Ex.ns
   iterate 2 refine Ex.pu ?_
   apply Ex.nil
   refine X.cd rfl (fun hc7 => ?_) (fun hc7 => ?_)
   ·exact absurd hmul hc7
   apply X.skip
   apply X.sr
   refine Ex.pu ?_
   refine Ex.mo ?_
   apply Ex.nil
   apply X.exit
   apply X.region
   iterate 2 refine Ex.pu ?_
   refine Ex.bs itE [itL k s true x (mulV z ⟨3, 2⟩)] ?_
   refine Ex.mo ?_
   refine Ex.pu ?_
   apply Ex.nil
   apply X.region
   iterate 2 refine Ex.pu ?_
   apply Ex.nil
   refine X.bk (k + 1)
  apply X.skip
  apply X.seq
  apply X.sr
  iterate 3 refine Ex.pu ?_
  apply Ex.nil
  refine X.cd rfl (fun hc8 => ?_) (fun hc8 => ?_)
  ·apply X.skip
   refine X.cd rfl (fun hc9 => ?_) (fun hc9 => ?_)
   ·rw [← itL_b hc6 (.inl hc8)] at hst
    apply X.exit
    apply X.sr
    refine Ex.pu ?_
    refine Ex.mo ?_
    apply Ex.nil
    apply X.exit
    apply X.region
    iterate 2 refine Ex.pu ?_
    refine Ex.bs itE [itL k s true x z] ?_
    refine Ex.mo ?_
    refine Ex.pu ?_
    apply Ex.nil
    apply X.region
    iterate 2 refine Ex.pu ?_
    apply Ex.nil
    refine X.bk (k + 1)
   exact absurd hc8 hc9
  ·apply X.sr
   iterate 3 refine Ex.pu ?_
   apply Ex.nil
   refine X.cd rfl (fun hc10 => ?_) (fun hc10 => ?_)
   ·apply X.skip
    refine X.cd rfl (fun hc11 => ?_) (fun hc11 => ?_)
    ·rw [← itL_b hc6 (.inr (.inl (by unfold clr; rw [decide_eq_true hc11.1, hc11.2]; rfl)))] at hst
     apply X.exit
     apply X.sr
     refine Ex.pu ?_
     refine Ex.mo ?_
     apply Ex.nil
     apply X.exit
     apply X.region
     iterate 2 refine Ex.pu ?_
     refine Ex.bs itE [itL k s true x z] ?_
     refine Ex.mo ?_
     refine Ex.pu ?_
     apply Ex.nil
     apply X.region
     iterate 2 refine Ex.pu ?_
     apply Ex.nil
     refine X.bk (k + 1)
    exact absurd hc11 (fun hc11 => hc11.elim (fun h => h hc10.1) (fun h => by rw [hc10.2] at h; cases h))
   ·apply X.region
    iterate 6 refine Ex.pu ?_
    apply Ex.nil
    refine X.cd rfl (fun hc12 => ?_) (fun hc12 => ?_)
    ·rw [← itL_b hc6 (.inr (.inr hc12))] at hst
     apply X.exit
     apply X.sr
     refine Ex.pu ?_
     refine Ex.mo ?_
     apply Ex.nil
     apply X.exit
     apply X.region
     iterate 2 refine Ex.pu ?_
     refine Ex.bs itE [itL k s true x z] ?_
     refine Ex.mo ?_
     refine Ex.pu ?_
     apply Ex.nil
     apply X.region
     iterate 2 refine Ex.pu ?_
     apply Ex.nil
     refine X.bk (k + 1)
    rw [← itL_c hc6 hc8 (by unfold clr; rcases hc10 with h | h <;> simp [h]) hc12] at hst
    apply X.skip
    apply X.exit
    apply X.region
    iterate 2 refine Ex.pu ?_
    refine Ex.bs itE [itL k s false x z] ?_
    refine Ex.mo ?_
    refine Ex.pu ?_
    apply Ex.nil
    apply X.region
    iterate 2 refine Ex.pu ?_
    apply Ex.nil
    refine X.bk (k + 1)
 ·have hkl : k = l.length := by omega
  subst hkl
  apply X.exit
  apply X.sr
  iterate 3 refine Ex.pu ?_
  apply Ex.nil
  refine X.ret ?_
  refine RetQ.imp (Imp.freeze (k := 201) rfl) ?_
  refine RetQ.ret (.many (by decide) (.cons (.tmp rfl (LeV.eq ?_)) (.cons (.tmp rfl (LeV.eq ?_)) .nil)))
  all_goals (first | (rw [hV]; done) | (rw [hE]; done) | (rw [hV]; rfl) | (rw [hE]; rfl))
end Go.Rse
namespace Go.Rse
open Go Go.Proofs
attribute [local irreducible] Pur StepA StepM Ex X Fn Imp LeV LeB FnO It YStep
attribute [local irreducible] mnsD ofRow ofV ofL ofE ofD cntE cntV ckD
end Go.Rse
