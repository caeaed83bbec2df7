/-
  Walks.
-/
import Derived.Test.YtkpbljifckjeoaaGreatDoorYJWri3
set_option linter.unusedSimpArgs false
set_option linter.unusedVariables false
namespace Go.Rse
open Go Go.Proofs
section
attribute [local irreducible] Pur yr yw Ex X Fn Imp LeV LeB FnO It yx
theorem zfA (m : Mn) (k : Int) : k ∈ perfL m ↔ (1 <= k /\ k <= 4 /\ m.p k = 3) := by
 unfold perfL;simp only [List.mem_filter, List.mem_cons, List.not_mem_nil, or_false, decide_eq_true_eq];constructor
 ·rintro ⟨h1, h2⟩; exact ⟨by omega, by omega, h2⟩
 ·rintro ⟨h1, h2, h3⟩; exact ⟨by omega, h3⟩
theorem zns (x : Ite) {j : Nat} {t : Tm} (h : (itT x)[j]? = some t) : (([iv x.Dur.N, iv x.Dur.D, iv x.Before.N, iv x.Before.D, iv x.After.N, iv x.After.D] : List AV).drop ((j : Int).toNat * 2)).take 2 = tmE t := by
 have hj : j < 3 := (List.getElem?_eq_some_iff.1 h).1;have : j = 0 \/ j = 1 \/ j = 2 := by omega
 rcases this with rfl | rfl | rfl <;> (injection h with h; subst h; rfl)
attribute [local irreducible] ckT yP perfL
set_option maxHeartbeats 1000000 in
theorem zen (l : List Ite) (hl : l.length <= 4000000) : Fn Tryz.prog 97 [itsA l] (.tup [iv (ckIE l), iv (ckIX l 0)]) := by
 refine Fn.go Tryz.func97 Tryz.ntmps97 (fun g w d => ?_);refine gq ?_
 refine yS (ι := Nat) (fun (k : Nat) => [(9, itsA l), (10, iv l.length), (11, iv (k : Int))]) (fun (k : Nat) => []) (fun (k : Nat) => k <= l.length /\ ckIE l = ckIE (l.drop k) /\ ckIX l 0 = ckIX (l.drop k) (k : Int)) (fun (k : Nat) => l.length - k) 0 (fun k hk => ?_) (hJ := by
  exact ⟨by omega, rfl, rfl⟩)
 obtain ⟨hk1, hk2, hk3⟩ := hk;refine gd ?_ ?_<;>intro hc1
 ·obtain ⟨x, hx⟩ : ∃ x, l[k]? = some x := ⟨_, lgg (by omega)⟩;have hx2 : l[(k : Int).toNat]? = some x := by simpa using hx
  apply yp;apply yl;apply X.block;apply yg;iterate 3 refine ya ?_
  refine zB ?_;refine ya ?_;refine Ex.mo ?_;apply Ex.nil;apply yl;apply yg;iterate 3 refine ya ?_
  refine ExF.at 3 ?_;refine yA ?_;iterate 3 refine ExF.gi ?_
  iterate 2 refine yA ?_
  iterate 3 refine ExF.gi ?_
  iterate 2 refine yA ?_
  iterate 3 refine ExF.gi ?_
  refine gf ?_ ?_<;>intro hc2
  ·have hF : itF x = 2 := by unfold itF; rw [if_pos (by unfold itRg; omega)]
   have hE : ckIE l = 2 := by rw [hk2, zdZ hx, hF, if_neg (by decide)]
   have hX : ckIX l 0 = (k : Int) := by rw [hk3, zd0 _ hx, hF, if_neg (by decide)]
   refine gq ?_;refine yi ?_ ?_;all_goals (first | (rw [hE]; done) | (rw [hX]; done) | (rw [hE]; rfl) | (rw [hX]; rfl))
  have hR : ¬ itRg x := by unfold itRg; omega
  have hT : (itT x).length = 3 := rfl;refine gq ?_
  refine yS (ι := Nat) (fun (j : Nat) => [(9, itsA l), (10, iv l.length), (11, iv (k : Int)), (4, iv (k : Int)), (5, .ptr 5 0 0 0), (41, .agg [iv x.Dur.N, iv x.Dur.D, iv x.Before.N, iv x.Before.D, iv x.After.N, iv x.After.D]), (42, iv (j : Int))]) (fun (j : Nat) => [(5, .box (itE x) 120)]) (fun (j : Nat) => j <= 3 /\ yP (itT x) = yP ((itT x).drop j)) (fun (j : Nat) => 3 - j) 0 (fun j hk => ?_) (hJ := by
   exact ⟨by omega, rfl⟩)
  obtain ⟨hj1, hj2⟩ := hk;refine gd ?_ ?_<;>intro hc3
  ·obtain ⟨t, ht⟩ : ∃ t, (itT x)[j]? = some t := ⟨_, lgg (show j < (itT x).length by simp; omega)⟩;have hpt := zns x ht;have ht2 : (itT x)[(j : Int).toNat]? = some t := by simpa using ht
   apply yp;apply yl;apply X.block;apply yg;refine ya (hs := by exact zx ArK.h TyK.h rfl rfl (by omega) (by omega) hpt) ?_;refine gq ?_;refine yb (zbF t) ?_;refine gd ?_ ?_<;>intro hc4
   ·have hf : yP (itT x) = ckT t := by rw [hj2, zch ht, if_neg hc4]
    have hF : itF x = ckT t := by unfold itF; rw [if_neg hR, hf, if_neg hc4]
    have hE : ckIE l = ckT t := by rw [hk2, zdZ hx, hF, if_neg hc4]
    have hX : ckIX l 0 = (k : Int) := by rw [hk3, zd0 _ hx, hF, if_neg hc4]
    refine gq ?_;refine yi ?_ ?_;all_goals (first | (rw [hE]; done) | (rw [hX]; done) | (rw [hE]; rfl) | (rw [hX]; rfl))
   refine gq ?_
   refine yz (j + 1) (hJ := by
    exact ⟨by omega, by rw [hj2, zch ht, if_pos hc4]⟩)
  ·have hf : yP (itT x) = 0 := by rw [hj2, List.drop_of_length_le (by simp; omega)]; unfold yP; rfl
   apply X.exit;apply yg;(iterate 2 refine ya ?_);refine ExF.at 2 ?_;refine yA ?_;(iterate 2 refine ExF.gi ?_);(iterate 2 refine yA ?_);(iterate 11 refine ExF.gi ?_);refine gf ?_ ?_<;>intro hc5
   ·have hF : itF x = 8 := by unfold itF; rw [if_neg hR, if_pos hf, if_pos (by unfold itKd; revert hc5; cases x.Rest <;> cases x.Color <;> cases x.Fixed <;> simp)]
    have hE : ckIE l = 8 := by rw [hk2, zdZ hx, hF, if_neg (by decide)]
    have hX : ckIX l 0 = (k : Int) := by rw [hk3, zd0 _ hx, hF, if_neg (by decide)]
    refine gq ?_;refine yi ?_ ?_;all_goals (first | (rw [hE]; done) | (rw [hX]; done) | (rw [hE]; rfl) | (rw [hX]; rfl))
   have hF : itF x = 0 := by unfold itF; rw [if_neg hR, if_pos hf, if_neg (by unfold itKd; revert hc5; cases x.Rest <;> cases x.Color <;> cases x.Fixed <;> simp)]
   refine gq ?_
   refine yz (k + 1) (hJ := by
    exact ⟨by omega, by rw [hk2, zdZ hx, if_pos hF], by rw [hk3, zd0 _ hx, if_pos hF]; rfl⟩)
 ·have hkl : k = l.length := by omega
  have hE : ckIE l = 0 := by rw [hk2, hkl, List.drop_length]; rfl
  have hX : ckIX l 0 = 0 := by rw [hk3, hkl, List.drop_length]; rfl
  refine gq ?_;refine yi ?_ ?_;all_goals (first | (rw [hE]; done) | (rw [hX]; done) | (rw [hE]; rfl) | (rw [hX]; rfl))
theorem zeX (m : Mn) (k : Int) (h0 : -9223372036854775808 <= k) (h1 : k <= 9223372036854775807) : Fn Tryz.prog 206 [mnA m, iv k] (.tup [tmA (unT m k), iv (unE m k)]) := by
 refine Fn.go Tryz.func206 Tryz.ntmps206 (fun g w d => ?_);refine gq ?_;refine yb (zel m) ?_;refine gd ?_ ?_<;>intro hc1
 ·have hU : unE m k = ckM m := by unfold unE; rw [if_neg hc1]
  have hV : unT m k = tmZ := by unfold unT; rw [if_neg (by rw [hU]; exact hc1)]
  refine gq ?_;refine yH ty25 ?_ ?_;all_goals (first | (rw [hU]; done) | (rw [hV]; rfl) | (rw [hU]; rfl) | (rw [hV]; done))
 have hck : ckM m = 0 := hc1;refine gq ?_;refine yb (yK (if ckM m = 0 then perfL m else []) k (by have := zh9 m; split <;> simp <;> omega)) ?_;refine gd ?_ ?_<;>intro hc2
 ·rw [if_pos hck] at hc2;have hU : unE m k = 2 := by unfold unE; rw [if_pos hck, if_neg (fun h => absurd ((zfA m k).2 h) (by simpa using hc2))]
  have hV : unT m k = tmZ := by unfold unT; rw [if_neg (by rw [hU]; decide)]
  refine gq ?_;refine yH ty25 ?_ ?_;all_goals (first | (rw [hU]; done) | (rw [hV]; rfl) | (rw [hU]; rfl) | (rw [hV]; done))
 rw [if_pos hck] at hc2;have hm := (zfA m k).1 (by simpa using hc2);have hU : unE m k = 0 := by unfold unE; rw [if_pos hck, if_pos hm]
 have hV : unT m k = yq m (k + 1) := by unfold unT; rw [if_pos hU]
 refine gq ?_;refine yb (zbC (v := k + 1) hck (by omega) (by omega)) ?_;refine gq ?_;refine yH ty25 ?_ ?_;all_goals (first | (rw [hU]; done) | (rw [hV]; rfl) | (rw [hU]; rfl) | (rw [hV]; done))
theorem zae (l : List Ite) (b : Bd) (hb : b.item < l.length) : Fn Tryz.prog 223 [.agg [itsA l], bdA b] (iv (hdI l b)) := by
 refine Fn.go Tryz.func223 Tryz.ntmps223 (fun g w d => ?_);apply yg;iterate 2 refine zaS ?_
 refine yu ?_;apply yl;apply yg;iterate 3 refine ya ?_
 refine ExF.at 3 ?_;refine yA ?_;iterate 7 refine ExF.gi ?_
 refine gf ?_ ?_<;>intro hc1
 ·have hH : hdI l b = -1 := by unfold hdI; rw [if_pos hc1]
  refine gq ?_;all_goals (rw [hH])
 have hH : hdI l b = b.item := by unfold hdI; rw [if_neg (by rintro (h | h); omega; (rw [hc1.2] at h; cases h))]
 refine gq ?_;all_goals (rw [hH])
end
section
structure BdOk (k : Int) (l : List Ite) (n : Nat) (b : Bd) : Prop where
 it : b.item = -1 \/ (0 <= b.item /\ b.next = b.item + 1 /\ isH k (itg l b.item))
 lo : 0 <= b.next
 hi : b.next <= n
theorem BdOk.mono {k : Int} {l : List Ite} {n n' : Nat} {b : Bd} (h : BdOk k l n b) (hn : n <= n') : BdOk k l n' b := ⟨h.it, h.lo, by have := h.hi; omega⟩
theorem zr7 {l : List Ite} {n : Nat} {x : Ite} (h : l[n]? = some x) : itg l (n : Int) = x := by
 unfold itg; rw [show (n : Int).toNat = n by omega, List.getD_eq_getElem?_getD, h]; rfl
theorem zkI (k : Int) (l : List Ite) : ∀ n, n <= l.length -> (∀ b ∈ bdK k l n, BdOk k l n b /\ b.fin = false) /\ (bdK k l n).Pairwise (fun b c => b.next <= bdF c)
 | 0, _ => by
  constructor
  ·intro b hb;simp [bdK] at hb; subst hb;exact ⟨⟨.inl rfl, by simp, by simp⟩, rfl⟩
  ·simp [bdK]
 | n + 1, hn => by
  obtain ⟨h1, h2⟩ := zkI k l n (by omega);have hx : l[n]? = some l[n] := lgg (by omega);rw [zcF hx];have hg := zr7 hx;generalize l[n] = x at *
  have a1 : ∀ b ∈ bdK k l n ++ (if isH k x then [(⟨n, n + 1, false⟩ : Bd)] else []), BdOk k l (n + 1) b /\ b.fin = false := by
   intro b hb;rcases List.mem_append.1 hb with hb | hb
   ·exact ⟨(h1 b hb).1.mono (by omega), (h1 b hb).2⟩
   ·split at hb
    ·rename_i hh;simp at hb; subst hb;refine ⟨⟨.inr ⟨by simp, rfl, ?_⟩, by show (0 : Int) <= n + 1; omega, by show (n : Int) + 1 <= ((n + 1 : Nat) : Int); omega⟩, rfl⟩;show isH k (itg l (n : Int)); rw [hg]; exact hh
    ·simp at hb
  have a2 : (bdK k l n ++ (if isH k x then [(⟨n, n + 1, false⟩ : Bd)] else [])).Pairwise (fun b c => b.next <= bdF c) := by
   refine List.pairwise_append.2 ⟨h2, ?_, ?_⟩
   ·split <;> simp
   ·intro b hb c hc;split at hc
    ·simp at hc; subst hc;have := (h1 b hb).1.hi;show b.next <= if (0 : Int) <= (n : Int) then (n : Int) else _
     rw [if_pos (by omega)]; exact this
    ·simp at hc
  constructor
  ·intro b hb;rcases List.mem_append.1 hb with hb | hb
   ·exact a1 b hb
   ·split at hb
    ·simp at hb; subst hb;exact ⟨⟨.inl rfl, by show (0 : Int) <= n + 1; omega, by show (n : Int) + 1 <= ((n + 1 : Nat) : Int); omega⟩, rfl⟩
    ·simp at hb
  ·refine List.pairwise_append.2 ⟨a2, ?_, ?_⟩
   ·split <;> simp
   ·intro b hb c hc;split at hc
    ·simp at hc; subst hc;have := (a1 b hb).1.hi;show b.next <= if (0 : Int) <= -1 then (-1 : Int) else (n : Int) + 1
     rw [if_neg (by omega)]; omega
    ·simp at hc
theorem znt (k : Int) (l : List Ite) : (∀ b ∈ bds k l, BdOk k l l.length b) /\ (bds k l).Pairwise (fun b c => b.next <= bdF c) := by
 obtain ⟨h1, h2⟩ := zkI k l l.length (Nat.le_refl _);unfold bds;constructor
 ·intro b hb;rcases List.mem_append.1 hb with hb | hb
  ·exact (h1 b hb).1
  ·simp at hb; subst hb; exact ⟨.inl rfl, by simp, by simp⟩
 ·refine List.pairwise_append.2 ⟨h2, by simp, ?_⟩;intro b hb c hc;simp at hc; subst hc;have := (h1 b hb).1.hi;show b.next <= if (0 : Int) <= -1 then (-1 : Int) else (l.length : Int)
  rw [if_neg (by omega)]; exact this
theorem zjR (k : Int) (l : List Ite) : ∀ n, (bdK k l n)[0]? = some ⟨-1, 0, false⟩
 | 0 => rfl
 | n + 1 => by
  have h := zjR k l n;have hp := (zd1 k l n).1;cases hx : l[n]? with
  | none => unfold bdK; rw [hx]; exact h
  | some x => rw [zcF hx, List.append_assoc, List.getElem?_append_left (by omega)]; exact h
theorem zeY (k : Int) (l : List Ite) : (bds k l).length = (bdK k l l.length).length + 1 := by unfold bds; simp
theorem zjS (k : Int) (l : List Ite) : (bds k l)[0]? = some ⟨-1, 0, false⟩ := by
 unfold bds;rw [List.getElem?_append_left (by have := (zd1 k l l.length).1; omega)];exact zjR k l _
theorem zpl {k : Int} {l : List Ite} {i : Nat} {b : Bd} (h : (bds k l)[i]? = some b) : b.fin = decide (i + 1 = (bds k l).length) := by
 have hl := zeY k l;unfold bds at h;rcases Nat.lt_or_ge i (bdK k l l.length).length with hi | hi
 ·rw [List.getElem?_append_left hi] at h;rw [((zkI k l l.length (Nat.le_refl _)).1 b (List.mem_of_getElem? h)).2, eq_comm, decide_eq_false_iff_not]; omega
 ·rw [List.getElem?_append_right hi] at h
  have h0 : i - (bdK k l l.length).length = 0 := by
   rcases Nat.eq_zero_or_pos (i - (bdK k l l.length).length) with h0 | h0
   ·exact h0
   ·rw [List.getElem?_eq_none (by simp; omega)] at h; cases h
  rw [h0] at h;simp at h; subst h;show true = _;rw [eq_comm, decide_eq_true_iff]; omega
structure SgOk (k : Int) (l : List Ite) (s : Sgm) : Prop where
 f0 : 0 <= s.From
 ft : s.From <= s.To
 tl : s.To <= l.length
 lf : s.Left = -1 \/ (0 <= s.Left /\ s.Left + 1 = s.From /\ (itg l s.Left).Value <= k /\ (itg l s.Left).Color = false /\ (itg l s.Left).Fixed = false)
 rt : s.Right = -1 \/ (s.Right = s.To /\ s.To < l.length /\ (itg l s.Right).Value <= k /\ (itg l s.Right).Color = false /\ (itg l s.Right).Fixed = false)
structure SgsOk (k : Int) (l : List Ite) (S : List Sgm) : Prop where
 all : ∀ s ∈ S, SgOk k l s
 nx : ∀ n s t, S[n]? = some s -> S[n + 1]? = some t -> t.Left = s.Right /\ s.To <= t.From /\ (0 <= s.Right -> t.From = s.To + 1)
 st : ∀ s, S[0]? = some s -> s.Left = -1
theorem zkJ {k : Int} {l : List Ite} {n : Nat} {b : Bd} (h : BdOk k l n b) : hdI l b = -1 \/ (0 <= b.item /\ hdI l b = b.item /\ b.next = b.item + 1 /\ (itg l b.item).Value <= k /\ (itg l b.item).Color = false /\ (itg l b.item).Fixed = false) := by
 unfold hdI;split
 ·exact .inl rfl
 ·rename_i hc;have h1 : ¬ b.item < 0 := fun h => hc (.inl h)
  have h2 : (itg l b.item).Fixed = false := by
   cases hf : (itg l b.item).Fixed with
   | false => rfl
   | true => exact absurd (.inr hf) hc
  rcases h.it with h3 | ⟨h3, h4, h5⟩
  ·omega
  ·exact .inr ⟨h3, rfl, h4, h5.2, h5.1, h2⟩
theorem zr8 {k : Int} {l : List Ite} {b c : Bd} (hb : BdOk k l l.length b) (hc : BdOk k l l.length c) (h : b.next <= bdF c) : SgOk k l (sg0 l b c) := by
 have hcF : bdF c <= c.next := by
  unfold bdF;rcases hc.it with h3 | ⟨h3, h4, h5⟩
  ·rw [if_neg (by omega)]; exact Int.le_refl _
  ·rw [if_pos h3]; omega
 refine ⟨hb.lo, h, by have := hc.hi; show bdF c <= l.length; omega, ?_, ?_⟩
 ·rcases zkJ hb with h3 | ⟨h3, h4, h5, h6⟩
  ·exact .inl h3
  ·refine .inr ?_;show 0 <= hdI l b /\ hdI l b + 1 = b.next /\ (itg l (hdI l b)).Value <= k /\ (itg l (hdI l b)).Color = false /\ (itg l (hdI l b)).Fixed = false;rw [h4]; exact ⟨h3, h5.symm, h6⟩
 ·rcases zkJ hc with h3 | ⟨h3, h4, h5, h6⟩
  ·exact .inl h3
  ·refine .inr ?_;have hF : bdF c = c.item := by unfold bdF; rw [if_pos h3]
   show hdI l c = bdF c /\ bdF c < l.length /\ (itg l (hdI l c)).Value <= k /\ (itg l (hdI l c)).Color = false /\ (itg l (hdI l c)).Fixed = false;rw [h4, hF];exact ⟨rfl, by have := hc.hi; omega, h6⟩
theorem zgq {l : List Ite} {B : List Bd} {i : Nat} {s : Sgm} (h : (sgs0 l B)[i]? = some s) : ∃ b c, B[i]? = some b /\ B[i + 1]? = some c /\ s = sg0 l b c := by
 have hi := (List.getElem?_eq_some_iff.1 h).1;rw [zfk] at hi;have hb : B[i]? = some B[i] := lgg (by omega);have hc : B[i + 1]? = some B[i + 1] := lgg (by omega);have := zj5 l B i _ _ hb hc;rw [h] at this;exact ⟨_, _, hb, hc, Option.some.inj this⟩
theorem zpm {B : List Bd} (h : B.Pairwise (fun b c => b.next <= bdF c)) {i : Nat} {b c : Bd} (hb : B[i]? = some b) (hc : B[i + 1]? = some c) : b.next <= bdF c := by
 obtain ⟨h1, rfl⟩ := List.getElem?_eq_some_iff.1 hb;obtain ⟨h2, rfl⟩ := List.getElem?_eq_some_iff.1 hc;exact List.pairwise_iff_getElem.1 h i (i + 1) h1 h2 (by omega)
theorem zlu (k : Int) (l : List Ite) : SgsOk k l (sgs0 l (bds k l)) := by
 obtain ⟨h1, h2⟩ := znt k l;refine ⟨?_, ?_, ?_⟩
 ·intro s hs;obtain ⟨i, hi⟩ := List.getElem?_of_mem hs;obtain ⟨b, c, hb, hc, rfl⟩ := zgq hi;exact zr8 (h1 b (List.mem_of_getElem? hb)) (h1 c (List.mem_of_getElem? hc)) (zpm h2 hb hc)
 ·intro n s t hs ht;obtain ⟨b, c, hb, hc, rfl⟩ := zgq hs;obtain ⟨c', d, hc', hd, rfl⟩ := zgq ht;rw [hc] at hc'; cases hc';have ho := h1 c (List.mem_of_getElem? hc);refine ⟨rfl, ?_, ?_⟩
  ·show bdF c <= c.next;unfold bdF;rcases ho.it with h3 | ⟨h3, h4, h5⟩
   ·rw [if_neg (by omega)]; exact Int.le_refl _
   ·rw [if_pos h3]; omega
  ·intro h;have h : 0 <= hdI l c := h;show c.next = bdF c + 1;rcases zkJ ho with h3 | ⟨h3, h4, h5, h6⟩
   ·omega
   ·unfold bdF; rw [if_pos h3]; exact h5
 ·intro s hs;obtain ⟨b, c, hb, hc, rfl⟩ := zgq hs;rw [zjS] at hb; cases hb;rfl
theorem SgOk.cnt {k : Int} {l : List Ite} {s : Sgm} (h : SgOk k l s) (t : Tm) : SgOk k l { s with Count := t } := ⟨h.f0, h.ft, h.tl, h.lf, h.rt⟩
theorem ziW {m : Mn} {k : Int} {l : List Ite} (h : segE m k l = 0) : SgsOk k l (segV m k l) := by
 have h0 := zlu k l;unfold segV;rw [if_pos h];refine ⟨?_, ?_, ?_⟩
 ·intro s hs;obtain ⟨t, ht, rfl⟩ := List.mem_map.1 hs;exact (h0.all t ht).cnt _
 ·intro n s t hs ht;rw [List.getElem?_map] at hs ht;obtain ⟨s', hs', rfl⟩ := Option.map_eq_some_iff.1 hs;obtain ⟨t', ht', rfl⟩ := Option.map_eq_some_iff.1 ht;exact h0.nx n s' t' hs' ht'
 ·intro s hs;rw [List.getElem?_map] at hs;obtain ⟨s', hs', rfl⟩ := Option.map_eq_some_iff.1 hs;exact h0.st s' hs'
theorem zlv {m : Mn} {k : Int} {l : List Ite} (h : segE m k l = 0) : unE m k = 0 /\ ckIE l = 0 /\ segX (unT m k) l (sgs0 l (bds k l)) = 0 := by
 unfold segE at h;split at h
 ·split at h
  ·exact ⟨by assumption, by assumption, h⟩
  ·exact absurd h (by assumption)
 ·exact absurd h (by assumption)
structure ChOk (s : Sgm) (c : Int) : Prop where
 lf : c = 1 \/ c = 3 -> 0 <= s.Left
 rt : c = 2 \/ c = 3 -> 0 <= s.Right
 al : c = 4 -> s.From < s.To
theorem zpn {p a t : Bool} {s : Sgm} {c : Int} (h : c ∈ alR p a t s) : (c = 0 /\ (s.Count.N % 3 = 0 \/ s.Free = true)) \/ (c = 1 /\ p = true /\ s.Count.N % 3 = 1) \/ (c = 2 /\ a = true /\ s.Free = false /\ s.Count.N % 3 = 1) \/ (c = 3 /\ p = true /\ a = true /\ s.Free = false /\ s.Count.N % 3 = 2) \/ (c = 4 /\ t = true /\ s.Free = false /\ s.Count.N % 3 = 2) := by
 unfold alR at h;simp only [List.mem_append] at h;rcases h with (((h | h) | h) | h) | h
 ·split at h
  ·simp at h; exact .inl ⟨h, by assumption⟩
  ·simp at h
 ·split at h
  ·rename_i hh; simp at h; exact .inr (.inl ⟨h, hh.2.2, hh.1⟩)
  ·simp at h
 ·split at h
  ·rename_i hh; simp at h; exact .inr (.inr (.inl ⟨h, hh.2.2, hh.2.1, hh.1⟩))
  ·simp at h
 ·split at h
  ·rename_i hh; simp at h; exact .inr (.inr (.inr (.inl ⟨h, hh.2.2.1, hh.2.2.2, hh.2.1, hh.1⟩)))
  ·simp at h
 ·split at h
  ·rename_i hh; simp at h; exact .inr (.inr (.inr (.inr ⟨h, hh.2.2, hh.2.1, hh.1⟩)))
  ·simp at h
theorem zrc {u : Tm} {k : Int} {l : List Ite} {L : List (Int × Bool)} {s : Sgm} (h : poQ u k l L s = true) : 0 <= s.Left /\ lgQ u (itg l s.Left) = true /\ rcQ u (fsL (itR l s)) (itg l s.Left).After = true := by
 unfold poQ at h;simp only [Bool.and_eq_true, Bool.not_eq_true', decide_eq_false_iff_not] at h;exact ⟨by omega, h.2.1.2, h.2.2⟩
theorem zrd {u : Tm} {k : Int} {l : List Ite} {s : Sgm} (h : anQ u k l s = true) : 0 <= s.Right /\ lgQ u (itg l s.Right) = true /\ rcQ u (lasL (itR l s)) (itg l s.Right).Before = true := by
 unfold anQ at h;simp only [Bool.and_eq_true, Bool.not_eq_true', decide_eq_false_iff_not] at h;exact ⟨by omega, h.2.2.1, h.2.2.2⟩
theorem zue {u : Tm} {k : Int} {l : List Ite} {s : Sgm} (h : atQ u k l s = true) : ¬ s.From = s.To /\ ntQ u k (itg l (s.To - 1)) = true := by
 unfold atQ at h;simp only [Bool.and_eq_true, Bool.not_eq_true', Bool.or_eq_false_iff, decide_eq_false_iff_not] at h;exact ⟨h.1.1, h.2.1⟩
theorem znu {u : Tm} {k : Int} {l : List Ite} {L : List (Int × Bool)} {s : Sgm} {c : Int} (hs : s.From <= s.To) (h : c ∈ alQ u k l L s) : ChOk s c := by
 unfold alQ at h;rcases zpn h with ⟨h1, _⟩ | ⟨h1, h2, _⟩ | ⟨h1, h2, _⟩ | ⟨h1, h2, h3, _⟩ | ⟨h1, h2, _⟩
 ·exact ⟨by omega, by omega, by omega⟩
 ·exact ⟨fun _ => (zrc h2).1, by omega, by omega⟩
 ·exact ⟨by omega, fun _ => (zrd h2).1, by omega⟩
 ·exact ⟨fun _ => (zrc h2).1, fun _ => (zrd h3).1, by omega⟩
 ·exact ⟨by omega, by omega, fun _ => by have := (zue h2).1; omega⟩
end
section
attribute [local irreducible] Pur yr yw Ex X Fn Imp LeV LeB FnO It yx
def bdX (k : Int) (l : List Ite) : List (List AV) := (bds k l).map fun b => [bdA b]
theorem ziX {k : Int} {l : List Ite} {j : Nat} {zs : List AV} (h : (bdX k l)[j]? = some zs) : ∃ b, (bds k l)[j]? = some b /\ zs = [bdA b] := by
 rw [bdX, List.getElem?_map] at h;cases hk : (bds k l)[j]? with
 | none => simp [hk] at h
 | some b => simp [hk] at h; exact ⟨b, rfl, h.symm⟩
theorem zlw (k : Int) (l : List Ite) : (bdX k l).length = (bdK k l l.length).length + 1 := by unfold bdX; rw [List.length_map, zeY]
theorem zlx {k : Int} {l : List Ite} (n : Nat) : ∀ d, ∃ r, bdK k l (n + d) = bdK k l n ++ r
 | 0 => ⟨[], by simp⟩
 | d + 1 => by
  obtain ⟨r, hr⟩ := zlx (k := k) (l := l) n d;cases hx : l[n + d]? with
  | none =>
   have e : bdK k l (n + d + 1) = bdK k l (n + d) := by
    conv => lhs; unfold bdK
    rw [hx]
   exact ⟨r, by rw [show n + (d + 1) = n + d + 1 from rfl, e]; exact hr⟩
  | some x => exact ⟨r ++ ((if isH k x then [⟨(n + d : Nat), (n + d : Nat) + 1, false⟩] else []) ++ if isC k x then [⟨-1, (n + d : Nat) + 1, false⟩] else []), by
   show bdK k l ((n + d) + 1) = _;rw [zcF hx, hr]; simp only [List.append_assoc]⟩
theorem zkK {k : Int} {l : List Ite} {n : Nat} {p : List Bd} {b : Bd} {q : List Bd} (hn : n + 1 <= l.length) (h : bdK k l (n + 1) = p ++ b :: q) : (bds k l)[p.length]? = some b := by
 obtain ⟨r, hr⟩ := zlx (k := k) (l := l) (n + 1) (l.length - (n + 1));rw [show n + 1 + (l.length - (n + 1)) = l.length by omega, h] at hr;unfold bds;rw [hr]; simp
theorem zgO {k : Int} {l : List Ite} {i : Nat} {b : Bd} (h : (bds k l)[i]? = some b) : (bdX k l)[i]? = some [bdA b] := by
 unfold bdX; rw [List.getElem?_map, h]; rfl
theorem znv {k : Int} {l : List Ite} {n : Nat} {x : Ite} (hx : l[n]? = some x) (h : ¬ isH k x) :
 (bdK k l (n + 1)).length = (bdK k l n).length + (if isC k x then 1 else 0) /\ (isC k x -> (bdX k l)[(bdK k l n).length]? = some [bdA ⟨-1, (n : Int) + 1, false⟩]) := by
 have hs := zcF (k := k) hx;rw [if_neg h, List.append_nil] at hs;have hlt := (List.getElem?_eq_some_iff.1 hx).1;refine ⟨by rw [hs, List.length_append]; split <;> rfl, fun hc => zgO (zkK (q := []) (n := n) (by omega) (by rw [hs, if_pos hc]))⟩
theorem zuf {k : Int} {l : List Ite} {n : Nat} {x : Ite} (hx : l[n]? = some x) (h : isH k x) :
 (bdX k l)[(bdK k l n).length]? = some [bdA ⟨(n : Int), (n : Int) + 1, false⟩] /\ (bdK k l (n + 1)).length = (bdK k l n).length + 1 + (if isC k x then 1 else 0) /\ (isC k x -> (bdX k l)[(bdK k l n).length + 1]? = some [bdA ⟨-1, (n : Int) + 1, false⟩]) := by
 have hs := zcF (k := k) hx;rw [if_pos h] at hs;have hlt := (List.getElem?_eq_some_iff.1 hx).1;refine ⟨zgO (zkK (n := n) (by omega) (by rw [hs, List.append_assoc]; rfl)), by rw [hs, List.length_append, List.length_append]; split <;> rfl, fun hc => ?_⟩;have := zgO (zkK (k := k) (l := l) (p := bdK k l n ++ [⟨(n : Int), (n : Int) + 1, false⟩]) (q := []) (n := n) (b := ⟨-1, (n : Int) + 1, false⟩) (by omega) (by rw [hs, if_pos hc]));rw [List.length_append] at this; exact this
theorem zxG (k : Int) (l : List Ite) : (bdX k l)[0]? = some [bdA ⟨-1, 0, false⟩] := zgO (zjS k l)
theorem zr9 (k : Int) (l : List Ite) : (bdX k l)[(bdK k l l.length).length]? = some [bdA ⟨-1, (l.length : Int), true⟩] := zgO (by unfold bds; simp)
attribute [local irreducible] bdK bds bdX
set_option maxHeartbeats 4000000 in
theorem zdr (k : Int) (l : List Ite) (hl : l.length <= 4000000) : It Tryz.prog 239 [.ept (fun _ : Unit => [.sl itE l]) () 0, .ept (fun _ : Unit => [iv k]) () 0] (bdX k l) := by
 have hp0 : (bdK k l 0).length = 1 := by unfold bdK; rfl
 have hpl := zd1 k l l.length;refine It.intro (ts := fun lY => [(0, .yv lY), (1, .ept (fun _ : Unit => [.sl itE l]) () 0), (2, .ept (fun _ : Unit => [iv k]) () 0)]) (n := 58) (by kernel_rfl) Tryz.func239 rfl Tryz.ntmps239 rfl (fun _ => rfl) (by simp) (fun g w d ds Y lY hY => ?_);apply yl;apply yg;iterate 2 refine ya ?_
 refine Ex.yield hY rfl rfl rfl (LeL.refl _) rfl rfl (zxG k l) rfl (fun b => ?_);refine gd ?_ ?_<;>intro hc1
 ·subst hc1;refine X.ret ?_;refine ⟨.inr rfl, _, false, rfl, fun hb => by simp at hb⟩
 subst hc1;refine gq ?_;refine yS (ι := Nat) (fun (n : Nat) => [(0, .yv lY), (1, .ept (fun _ : Unit => [.sl itE l]) () 0), (2, .ept (fun _ : Unit => [iv k]) () 0), (10, itsA l), (11, iv l.length), (12, iv (n : Int))]) (fun (n : Nat) => [(1000000, .yld (bdK k l n).length true)]) (fun (n : Nat) => n <= l.length) (fun (n : Nat) => l.length - n) 0 (fun n hk => ?_);refine gd ?_ ?_<;>intro hc2
 ·obtain ⟨x, hx⟩ : ∃ x, l[n]? = some x := ⟨_, lgg (by omega)⟩;have hx2 : l[(n : Int).toNat]? = some x := by simpa using hx
  apply yp;apply yl;apply X.block;apply yg;iterate 3 refine ya ?_
  refine zB ?_;refine ya ?_;refine Ex.mo ?_;apply Ex.nil;iterate 2 apply yl
  have hcs : x.Color = true \/ (x.Color = false /\ ¬ x.Value <= k) \/ (x.Color = false /\ x.Value <= k) := by cases x.Color <;> simp; omega
  rcases hcs with hp | ⟨hp, hq⟩ | ⟨hp, hq⟩
  ·have hg3 : ((!x.Color) == true) = false := by rw [hp]; rfl
   have hnh : ¬ isH k x := fun h => by rw [h.1] at hp; cases hp
   have hZ := znv (k := k) hx hnh;obtain ⟨hS, hC⟩ := hZ;apply ym;(iterate 4 refine ya ?_);(iterate 4 refine zaT ?_);(iterate 2 refine ya ?_);(iterate 7 refine zaT ?_);refine gd ?_ ?_<;>intro hc3
   ·exact absurd hc3 (by decide)
   apply yp;apply yl;have hcs2 : ¬ 0 < x.Cut \/ (0 < x.Cut /\ ¬ x.Cut <= k) \/ (0 < x.Cut /\ x.Cut <= k) := by omega
   rcases hcs2 with ha | ⟨ha, hb2⟩ | ⟨ha, hb2⟩
   ·have hg3 : (decide (0 < x.Cut) == true) = false := by rw [decide_eq_false ha]; rfl
    rw [if_neg (fun h => ha h.1), Nat.add_zero] at hS;apply ym;(iterate 4 refine ya ?_);(iterate 4 refine zaT ?_);(iterate 2 refine ya ?_);(iterate 6 refine zaT ?_);refine gd ?_ ?_<;>intro hc4
    ·exact absurd hc4 (by decide)
    refine gq ?_;refine yz (n + 1)
   ·have hg3 : (decide (0 < x.Cut) == true) = true := by rw [decide_eq_true ha]; rfl
    have hg9 : (decide (x.Cut <= k) == true) = false := by rw [decide_eq_false hb2]; rfl
    rw [if_neg (fun h => hb2 h.2), Nat.add_zero] at hS;apply ym;(iterate 4 refine ya ?_);(iterate 4 refine zM ?_);(iterate 2 refine ya ?_);(iterate 6 refine zaT ?_);refine gd ?_ ?_<;>intro hc5
    ·exact absurd hc5 (by decide)
    refine gq ?_;refine yz (n + 1)
   ·have hg3 : (decide (0 < x.Cut) == true) = true := by rw [decide_eq_true ha]; rfl
    have hg9 : (decide (x.Cut <= k) == true) = true := by rw [decide_eq_true hb2]; rfl
    have hY2 := hC ⟨ha, hb2⟩;rw [if_pos ⟨ha, hb2⟩] at hS;apply ym;(iterate 4 refine ya ?_);(iterate 4 refine zM ?_);(iterate 2 refine ya ?_);(iterate 4 refine zM ?_);refine zbl hY rfl rfl rfl (fun _ => ⟨_, _, rfl, rfl, rfl, LeL.refl _, rfl, rfl, hY2, fun b => ?_⟩) (fun h => absurd (h.symm.trans hg9) (by decide));refine zM ?_;refine gd ?_ ?_<;>intro hc6
    ·subst hc6;refine X.ret ?_;refine ⟨.inr rfl, _, false, rfl, fun hb => by simp at hb⟩
    subst hc6;refine gq ?_;refine yz (n + 1)
  ·have hg3 : ((!x.Color) == true) = true := by rw [hp]; rfl
   have hg9 : (decide (x.Value <= k) == true) = false := by rw [decide_eq_false hq]; rfl
   have hnh : ¬ isH k x := fun h => hq h.2
   have hZ := znv (k := k) hx hnh;obtain ⟨hS, hC⟩ := hZ;apply ym;(iterate 4 refine ya ?_);(iterate 4 refine zM ?_);(iterate 2 refine ya ?_);(iterate 7 refine zaT ?_);refine gd ?_ ?_<;>intro hc7
   ·exact absurd hc7 (by decide)
   apply yp;apply yl;have hcs2 : ¬ 0 < x.Cut \/ (0 < x.Cut /\ ¬ x.Cut <= k) \/ (0 < x.Cut /\ x.Cut <= k) := by omega
   rcases hcs2 with ha | ⟨ha, hb2⟩ | ⟨ha, hb2⟩
   ·have hg3 : (decide (0 < x.Cut) == true) = false := by rw [decide_eq_false ha]; rfl
    rw [if_neg (fun h => ha h.1), Nat.add_zero] at hS;apply ym;(iterate 4 refine ya ?_);(iterate 4 refine zaT ?_);(iterate 2 refine ya ?_);(iterate 6 refine zaT ?_);refine gd ?_ ?_<;>intro hc8
    ·exact absurd hc8 (by decide)
    refine gq ?_;refine yz (n + 1)
   ·have hg3 : (decide (0 < x.Cut) == true) = true := by rw [decide_eq_true ha]; rfl
    have hg9 : (decide (x.Cut <= k) == true) = false := by rw [decide_eq_false hb2]; rfl
    rw [if_neg (fun h => hb2 h.2), Nat.add_zero] at hS;apply ym;(iterate 4 refine ya ?_);(iterate 4 refine zM ?_);(iterate 2 refine ya ?_);(iterate 6 refine zaT ?_);refine gd ?_ ?_<;>intro hc9
    ·exact absurd hc9 (by decide)
    refine gq ?_;refine yz (n + 1)
   ·have hg3 : (decide (0 < x.Cut) == true) = true := by rw [decide_eq_true ha]; rfl
    have hg9 : (decide (x.Cut <= k) == true) = true := by rw [decide_eq_true hb2]; rfl
    have hY2 := hC ⟨ha, hb2⟩;rw [if_pos ⟨ha, hb2⟩] at hS;apply ym;(iterate 4 refine ya ?_);(iterate 4 refine zM ?_);(iterate 2 refine ya ?_);(iterate 4 refine zM ?_);refine zbl hY rfl rfl rfl (fun _ => ⟨_, _, rfl, rfl, rfl, LeL.refl _, rfl, rfl, hY2, fun b => ?_⟩) (fun h => absurd (h.symm.trans hg9) (by decide));refine zM ?_;refine gd ?_ ?_<;>intro hc10
    ·subst hc10;refine X.ret ?_;refine ⟨.inr rfl, _, false, rfl, fun hb => by simp at hb⟩
    subst hc10;refine gq ?_;refine yz (n + 1)
  ·have hg3 : ((!x.Color) == true) = true := by rw [hp]; rfl
   have hg9 : (decide (x.Value <= k) == true) = true := by rw [decide_eq_true hq]; rfl
   have hZ := zuf (k := k) hx ⟨hp, hq⟩;obtain ⟨hY1, hS, hC⟩ := hZ;apply ym;(iterate 4 refine ya ?_);(iterate 4 refine zM ?_);(iterate 2 refine ya ?_);(iterate 5 refine zM ?_);refine zbl hY rfl rfl rfl (fun _ => ⟨_, _, rfl, rfl, rfl, LeL.refl _, rfl, rfl, hY1, fun b => ?_⟩) (fun h => absurd (h.symm.trans hg9) (by decide));refine zM ?_;refine gd ?_ ?_<;>intro hc11
   ·subst hc11;refine X.ret ?_;refine ⟨.inr rfl, _, false, rfl, fun hb => by simp at hb⟩
   subst hc11;apply yp;apply yl;have hcs2 : ¬ 0 < x.Cut \/ (0 < x.Cut /\ ¬ x.Cut <= k) \/ (0 < x.Cut /\ x.Cut <= k) := by omega
   rcases hcs2 with ha | ⟨ha, hb2⟩ | ⟨ha, hb2⟩
   ·have hg3 : (decide (0 < x.Cut) == true) = false := by rw [decide_eq_false ha]; rfl
    rw [if_neg (fun h => ha h.1), Nat.add_zero] at hS;apply ym;(iterate 4 refine ya ?_);(iterate 4 refine zaT ?_);(iterate 2 refine ya ?_);(iterate 6 refine zaT ?_);refine gd ?_ ?_<;>intro hc12
    ·exact absurd hc12 (by decide)
    refine gq ?_;refine yz (n + 1)
   ·have hg3 : (decide (0 < x.Cut) == true) = true := by rw [decide_eq_true ha]; rfl
    have hg9 : (decide (x.Cut <= k) == true) = false := by rw [decide_eq_false hb2]; rfl
    rw [if_neg (fun h => hb2 h.2), Nat.add_zero] at hS;apply ym;(iterate 4 refine ya ?_);(iterate 4 refine zM ?_);(iterate 2 refine ya ?_);(iterate 6 refine zaT ?_);refine gd ?_ ?_<;>intro hc13
    ·exact absurd hc13 (by decide)
    refine gq ?_;refine yz (n + 1)
   ·have hg3 : (decide (0 < x.Cut) == true) = true := by rw [decide_eq_true ha]; rfl
    have hg9 : (decide (x.Cut <= k) == true) = true := by rw [decide_eq_true hb2]; rfl
    have hY2 := hC ⟨ha, hb2⟩;rw [if_pos ⟨ha, hb2⟩] at hS;apply ym;(iterate 4 refine ya ?_);(iterate 4 refine zM ?_);(iterate 2 refine ya ?_);(iterate 4 refine zM ?_);refine zbl hY rfl rfl rfl (fun _ => ⟨_, _, rfl, rfl, rfl, LeL.refl _, rfl, rfl, hY2, fun b => ?_⟩) (fun h => absurd (h.symm.trans hg9) (by decide));refine zM ?_;refine gd ?_ ?_<;>intro hc14
    ·subst hc14;refine X.ret ?_;refine ⟨.inr rfl, _, false, rfl, fun hb => by simp at hb⟩
    subst hc14;refine gq ?_;refine yz (n + 1)
 ·have hkl : n = l.length := by omega
  subst hkl;apply X.exit;apply ym;iterate 4 refine ya ?_
  refine Ex.yield hY rfl rfl rfl (LeL.refl _) rfl rfl (zr9 k l) rfl (fun b => ?_);apply Ex.nil;refine ⟨.inl rfl, _, b, rfl, fun h => by rw [zlw, h]; rfl⟩
theorem zey (k : Int) (l : List Ite) : Fn Tryz.prog 222 [iv k, itsA l] (.fn 239 [.ept (fun _ : Unit => [.sl itE l]) () 0, .ept (fun _ : Unit => [iv k]) () 0]) := by
 refine Fn.go Tryz.func222 Tryz.ntmps222 (fun g w d => ?_);apply yg;iterate 2 refine zbB ?_
 refine ya ?_;apply yI;refine zm ?_;refine X.ret ?_;refine RetQ.imp ((yR (k := 2) rfl rfl).trans (yR (k := 3) rfl rfl)) ?_;refine gq ?_;all_goals (first | rfl | (simp_all; done))
end
end Go.Rse
