/-
  Plain: how segments lie, and what choices leave unchanged.
-/
import Derived.Test.YtbilklnipfabpaaGreatDoorPJLev0
set_option linter.unusedSimpArgs false
set_option linter.unusedVariables false
namespace Go.Rse
open Go Go.Proofs
structure BdOk (k : Int) (l : List Ite) (n : Nat) (b : Bd) : Prop where
 it : b.item = -1 \/ (0 <= b.item /\ b.next = b.item + 1 /\ isH k (itg l b.item))
 lo : 0 <= b.next
 hi : b.next <= n
theorem BdOk.mono {k : Int} {l : List Ite} {n n' : Nat} {b : Bd} (h : BdOk k l n b) (hn : n <= n') : BdOk k l n' b := ⟨h.it, h.lo, by have := h.hi; omega⟩
theorem zjG {l : List Ite} {n : Nat} {x : Ite} (h : l[n]? = some x) : itg l (n : Int) = x := by
 unfold itg; rw [show (n : Int).toNat = n by omega, List.getD_eq_getElem?_getD, h]; rfl
theorem zjH (k : Int) (l : List Ite) : ∀ n, n <= l.length -> (∀ b ∈ bdK k l n, BdOk k l n b /\ b.fin = false) /\ (bdK k l n).Pairwise (fun b c => b.next <= bdF c)
 | 0, _ => by
  constructor
  ·intro b hb;simp [bdK] at hb; subst hb;exact ⟨⟨.inl rfl, by simp, by simp⟩, rfl⟩
  ·simp [bdK]
 | n + 1, hn => by
  obtain ⟨h1, h2⟩ := zjH k l n (by omega);have hx : l[n]? = some l[n] := lgg (by omega);rw [za0 hx];have hg := zjG hx;generalize l[n] = x at *
  have a1 : ∀ b ∈ bdK k l n ++ (if isH k x then [(⟨n, n + 1, false⟩ : Bd)] else []), BdOk k l (n + 1) b /\ b.fin = false := by
   intro b hb;rcases List.mem_append.1 hb with hb | hb
   ·exact ⟨(h1 b hb).1.mono (by omega), (h1 b hb).2⟩
   ·split at hb
    ·rename_i hh;simp at hb; subst hb;refine ⟨⟨.inr ⟨by simp, rfl, ?_⟩, by show (0 : Int) <= n + 1; omega, by show (n : Int) + 1 <= ((n + 1 : Nat) : Int); omega⟩, rfl⟩;show isH k (itg l (n : Int)); rw [hg]; exact hh
    ·simp at hb
  have a2 : (bdK k l n ++ (if isH k x then [(⟨n, n + 1, false⟩ : Bd)] else [])).Pairwise (fun b c => b.next <= bdF c) := by
   refine List.pairwise_append.2 ⟨h2, ?_, ?_⟩
   ·split <;> simp
   ·intro b hb c hc;split at hc
    ·simp at hc; subst hc;have := (h1 b hb).1.hi;show b.next <= if (0 : Int) <= (n : Int) then (n : Int) else _
     rw [if_pos (by omega)]; exact this
    ·simp at hc
  constructor
  ·intro b hb;rcases List.mem_append.1 hb with hb | hb
   ·exact a1 b hb
   ·split at hb
    ·simp at hb; subst hb;exact ⟨⟨.inl rfl, by show (0 : Int) <= n + 1; omega, by show (n : Int) + 1 <= ((n + 1 : Nat) : Int); omega⟩, rfl⟩
    ·simp at hb
  ·refine List.pairwise_append.2 ⟨a2, ?_, ?_⟩
   ·split <;> simp
   ·intro b hb c hc;split at hc
    ·simp at hc; subst hc;have := (a1 b hb).1.hi;show b.next <= if (0 : Int) <= -1 then (-1 : Int) else (n : Int) + 1
     rw [if_neg (by omega)]; omega
    ·simp at hc
theorem zmA (k : Int) (l : List Ite) : (∀ b ∈ bds k l, BdOk k l l.length b) /\ (bds k l).Pairwise (fun b c => b.next <= bdF c) := by
 obtain ⟨h1, h2⟩ := zjH k l l.length (Nat.le_refl _);unfold bds;constructor
 ·intro b hb;rcases List.mem_append.1 hb with hb | hb
  ·exact (h1 b hb).1
  ·simp at hb; subst hb; exact ⟨.inl rfl, by simp, by simp⟩
 ·refine List.pairwise_append.2 ⟨h2, by simp, ?_⟩;intro b hb c hc;simp at hc; subst hc;have := (h1 b hb).1.hi;show b.next <= if (0 : Int) <= -1 then (-1 : Int) else (l.length : Int)
  rw [if_neg (by omega)]; exact this
theorem ziO (k : Int) (l : List Ite) : ∀ n, (bdK k l n)[0]? = some ⟨-1, 0, false⟩
 | 0 => rfl
 | n + 1 => by
  have h := ziO k l n;have hp := (zdf k l n).1;cases hx : l[n]? with
  | none => unfold bdK; rw [hx]; exact h
  | some x => rw [za0 hx, List.append_assoc, List.getElem?_append_left (by omega)]; exact h
theorem zea (k : Int) (l : List Ite) : (bds k l).length = (bdK k l l.length).length + 1 := by unfold bds; simp
theorem ziP (k : Int) (l : List Ite) : (bds k l)[0]? = some ⟨-1, 0, false⟩ := by
 unfold bds;rw [List.getElem?_append_left (by have := (zdf k l l.length).1; omega)];exact ziO k l _
theorem zor {k : Int} {l : List Ite} {i : Nat} {b : Bd} (h : (bds k l)[i]? = some b) : b.fin = decide (i + 1 = (bds k l).length) := by
 have hl := zea k l;unfold bds at h;rcases Nat.lt_or_ge i (bdK k l l.length).length with hi | hi
 ·rw [List.getElem?_append_left hi] at h;rw [((zjH k l l.length (Nat.le_refl _)).1 b (List.mem_of_getElem? h)).2, eq_comm, decide_eq_false_iff_not]; omega
 ·rw [List.getElem?_append_right hi] at h
  have h0 : i - (bdK k l l.length).length = 0 := by
   rcases Nat.eq_zero_or_pos (i - (bdK k l l.length).length) with h0 | h0
   ·exact h0
   ·rw [List.getElem?_eq_none (by simp; omega)] at h; cases h
  rw [h0] at h;simp at h; subst h;show true = _;rw [eq_comm, decide_eq_true_iff]; omega
structure SgOk (k : Int) (l : List Ite) (s : Sgm) : Prop where
 f0 : 0 <= s.From
 ft : s.From <= s.To
 tl : s.To <= l.length
 lf : s.Left = -1 \/ (0 <= s.Left /\ s.Left + 1 = s.From /\ (itg l s.Left).Value <= k /\ (itg l s.Left).Color = false /\ (itg l s.Left).Fixed = false)
 rt : s.Right = -1 \/ (s.Right = s.To /\ s.To < l.length /\ (itg l s.Right).Value <= k /\ (itg l s.Right).Color = false /\ (itg l s.Right).Fixed = false)
structure SgsOk (k : Int) (l : List Ite) (S : List Sgm) : Prop where
 all : ∀ s ∈ S, SgOk k l s
 nx : ∀ n s t, S[n]? = some s -> S[n + 1]? = some t -> t.Left = s.Right /\ s.To <= t.From /\ (0 <= s.Right -> t.From = s.To + 1)
 st : ∀ s, S[0]? = some s -> s.Left = -1
theorem zjI {k : Int} {l : List Ite} {n : Nat} {b : Bd} (h : BdOk k l n b) : hdI l b = -1 \/ (0 <= b.item /\ hdI l b = b.item /\ b.next = b.item + 1 /\ (itg l b.item).Value <= k /\ (itg l b.item).Color = false /\ (itg l b.item).Fixed = false) := by
 unfold hdI;split
 ·exact .inl rfl
 ·rename_i hc;have h1 : ¬ b.item < 0 := fun h => hc (.inl h)
  have h2 : (itg l b.item).Fixed = false := by
   cases hf : (itg l b.item).Fixed with
   | false => rfl
   | true => exact absurd (.inr hf) hc
  rcases h.it with h3 | ⟨h3, h4, h5⟩
  ·omega
  ·exact .inr ⟨h3, rfl, h4, h5.2, h5.1, h2⟩
theorem zqW {k : Int} {l : List Ite} {b c : Bd} (hb : BdOk k l l.length b) (hc : BdOk k l l.length c) (h : b.next <= bdF c) : SgOk k l (sg0 l b c) := by
 have hcF : bdF c <= c.next := by
  unfold bdF;rcases hc.it with h3 | ⟨h3, h4, h5⟩
  ·rw [if_neg (by omega)]; exact Int.le_refl _
  ·rw [if_pos h3]; omega
 refine ⟨hb.lo, h, by have := hc.hi; show bdF c <= l.length; omega, ?_, ?_⟩
 ·rcases zjI hb with h3 | ⟨h3, h4, h5, h6⟩
  ·exact .inl h3
  ·refine .inr ?_;show 0 <= hdI l b /\ hdI l b + 1 = b.next /\ (itg l (hdI l b)).Value <= k /\ (itg l (hdI l b)).Color = false /\ (itg l (hdI l b)).Fixed = false;rw [h4]; exact ⟨h3, h5.symm, h6⟩
 ·rcases zjI hc with h3 | ⟨h3, h4, h5, h6⟩
  ·exact .inl h3
  ·refine .inr ?_;have hF : bdF c = c.item := by unfold bdF; rw [if_pos h3]
   show hdI l c = bdF c /\ bdF c < l.length /\ (itg l (hdI l c)).Value <= k /\ (itg l (hdI l c)).Color = false /\ (itg l (hdI l c)).Fixed = false;rw [h4, hF];exact ⟨rfl, by have := hc.hi; omega, h6⟩
theorem zfv {l : List Ite} {B : List Bd} {i : Nat} {s : Sgm} (h : (sgs0 l B)[i]? = some s) : ∃ b c, B[i]? = some b /\ B[i + 1]? = some c /\ s = sg0 l b c := by
 have hi := (List.getElem?_eq_some_iff.1 h).1;rw [zcH] at hi;have hb : B[i]? = some B[i] := lgg (by omega);have hc : B[i + 1]? = some B[i + 1] := lgg (by omega);have := ziM l B i _ _ hb hc;rw [h] at this;exact ⟨_, _, hb, hc, Option.some.inj this⟩
theorem zos {B : List Bd} (h : B.Pairwise (fun b c => b.next <= bdF c)) {i : Nat} {b c : Bd} (hb : B[i]? = some b) (hc : B[i + 1]? = some c) : b.next <= bdF c := by
 obtain ⟨h1, rfl⟩ := List.getElem?_eq_some_iff.1 hb;obtain ⟨h2, rfl⟩ := List.getElem?_eq_some_iff.1 hc;exact List.pairwise_iff_getElem.1 h i (i + 1) h1 h2 (by omega)
theorem zks (k : Int) (l : List Ite) : SgsOk k l (sgs0 l (bds k l)) := by
 obtain ⟨h1, h2⟩ := zmA k l;refine ⟨?_, ?_, ?_⟩
 ·intro s hs;obtain ⟨i, hi⟩ := List.getElem?_of_mem hs;obtain ⟨b, c, hb, hc, rfl⟩ := zfv hi;exact zqW (h1 b (List.mem_of_getElem? hb)) (h1 c (List.mem_of_getElem? hc)) (zos h2 hb hc)
 ·intro n s t hs ht;obtain ⟨b, c, hb, hc, rfl⟩ := zfv hs;obtain ⟨c', d, hc', hd, rfl⟩ := zfv ht;rw [hc] at hc'; cases hc';have ho := h1 c (List.mem_of_getElem? hc);refine ⟨rfl, ?_, ?_⟩
  ·show bdF c <= c.next;unfold bdF;rcases ho.it with h3 | ⟨h3, h4, h5⟩
   ·rw [if_neg (by omega)]; exact Int.le_refl _
   ·rw [if_pos h3]; omega
  ·intro h;have h : 0 <= hdI l c := h;show c.next = bdF c + 1;rcases zjI ho with h3 | ⟨h3, h4, h5, h6⟩
   ·omega
   ·unfold bdF; rw [if_pos h3]; exact h5
 ·intro s hs;obtain ⟨b, c, hb, hc, rfl⟩ := zfv hs;rw [ziP] at hb; cases hb;rfl
theorem SgOk.cnt {k : Int} {l : List Ite} {s : Sgm} (h : SgOk k l s) (t : Tm) : SgOk k l { s with Count := t } := ⟨h.f0, h.ft, h.tl, h.lf, h.rt⟩
theorem zcI {m : Mn} {k : Int} {l : List Ite} (h : segE m k l = 0) : SgsOk k l (segV m k l) := by
 have h0 := zks k l;unfold segV;rw [if_pos h];refine ⟨?_, ?_, ?_⟩
 ·intro s hs;obtain ⟨t, ht, rfl⟩ := List.mem_map.1 hs;exact (h0.all t ht).cnt _
 ·intro n s t hs ht;rw [List.getElem?_map] at hs ht;obtain ⟨s', hs', rfl⟩ := Option.map_eq_some_iff.1 hs;obtain ⟨t', ht', rfl⟩ := Option.map_eq_some_iff.1 ht;exact h0.nx n s' t' hs' ht'
 ·intro s hs;rw [List.getElem?_map] at hs;obtain ⟨s', hs', rfl⟩ := Option.map_eq_some_iff.1 hs;exact h0.st s' hs'
theorem ze1 {m : Mn} {k : Int} {l : List Ite} (h : segE m k l = 0) : unE m k = 0 /\ ckIE l = 0 /\ segX (unT m k) l (sgs0 l (bds k l)) = 0 := by
 unfold segE at h;split at h
 ·split at h
  ·exact ⟨by assumption, by assumption, h⟩
  ·exact absurd h (by assumption)
 ·exact absurd h (by assumption)
def sameI (x y : Ite) : Prop := x.Sign = y.Sign /\ x.Value = y.Value /\ x.Rest = y.Rest /\ x.Color = y.Color /\ x.Fixed = y.Fixed /\ x.Cut = y.Cut
theorem zN (x : Ite) : sameI x x := ⟨rfl, rfl, rfl, rfl, rfl, rfl⟩
theorem sameI.tr {x y z : Ite} (h : sameI x y) (g : sameI y z) : sameI x z := ⟨h.1.trans g.1, h.2.1.trans g.2.1, h.2.2.1.trans g.2.2.1, h.2.2.2.1.trans g.2.2.2.1, h.2.2.2.2.1.trans g.2.2.2.2.1, h.2.2.2.2.2.trans g.2.2.2.2.2⟩
theorem zcc {l : List Ite} {i j : Int} {f : Ite -> Ite} (hi : 0 <= i) (hj : 0 <= j) (hl : i < l.length) : itg (upI l i f) j = if i = j then f (itg l i) else itg l j := by
 unfold itg upI;rw [List.getD_eq_getElem?_getD, List.getElem?_set];by_cases h : i = j
 ·subst h;rw [if_pos rfl, if_pos rfl, if_pos (by omega)]; rfl
 ·rw [if_neg (by omega), if_neg h, ← List.getD_eq_getElem?_getD]
theorem zf8 {l : List Ite} {i j : Int} {f : Ite -> Ite} (hf : ∀ x, sameI (f x) x) (hi : 0 <= i) (hj : 0 <= j) (hl : i < l.length) : sameI (itg (upI l i f) j) (itg l j) := by
 rw [zcc hi hj hl];split
 ·rename_i h; subst h; exact hf _
 ·exact zN _
theorem zf9 (u : Tm) (x : Ite) : sameI (zG u x) x := zN _
theorem zga (u : Tm) (x : Ite) : sameI (zaa u x) x := zN _
theorem zlp (x : Ite) : sameI (dblI x) x := zN _
structure ChOk (s : Sgm) (c : Int) : Prop where
 lf : c = 1 \/ c = 3 -> 0 <= s.Left
 rt : c = 2 \/ c = 3 -> 0 <= s.Right
 al : c = 4 -> s.From < s.To
theorem zfw {p a t : Bool} {s : Sgm} {c : Int} (h : c ∈ alR p a t s) : (c = 0 /\ (s.Count.N % 3 = 0 \/ s.Free = true)) \/ (c = 1 /\ p = true /\ s.Count.N % 3 = 1) \/ (c = 2 /\ a = true /\ s.Free = false /\ s.Count.N % 3 = 1) \/ (c = 3 /\ p = true /\ a = true /\ s.Free = false /\ s.Count.N % 3 = 2) \/ (c = 4 /\ t = true /\ s.Free = false /\ s.Count.N % 3 = 2) := by
 unfold alR at h;simp only [List.mem_append] at h;rcases h with (((h | h) | h) | h) | h
 ·split at h
  ·simp at h; exact .inl ⟨h, by assumption⟩
  ·simp at h
 ·split at h
  ·rename_i hh; simp at h; exact .inr (.inl ⟨h, hh.2.2, hh.1⟩)
  ·simp at h
 ·split at h
  ·rename_i hh; simp at h; exact .inr (.inr (.inl ⟨h, hh.2.2, hh.2.1, hh.1⟩))
  ·simp at h
 ·split at h
  ·rename_i hh; simp at h; exact .inr (.inr (.inr (.inl ⟨h, hh.2.2.1, hh.2.2.2, hh.2.1, hh.1⟩)))
  ·simp at h
 ·split at h
  ·rename_i hh; simp at h; exact .inr (.inr (.inr (.inr ⟨h, hh.2.2, hh.2.1, hh.1⟩)))
  ·simp at h
theorem zmB {u : Tm} {k : Int} {l : List Ite} {L : List (Int × Bool)} {s : Sgm} (h : poQ u k l L s = true) : 0 <= s.Left /\ lgQ u (itg l s.Left) = true /\ rcQ u (fsL (itR l s)) (itg l s.Left).After = true := by
 unfold poQ at h;simp only [Bool.and_eq_true, Bool.not_eq_true', decide_eq_false_iff_not] at h;exact ⟨by omega, h.2.1.2, h.2.2⟩
theorem zmC {u : Tm} {k : Int} {l : List Ite} {s : Sgm} (h : anQ u k l s = true) : 0 <= s.Right /\ lgQ u (itg l s.Right) = true /\ rcQ u (lasL (itR l s)) (itg l s.Right).Before = true := by
 unfold anQ at h;simp only [Bool.and_eq_true, Bool.not_eq_true', decide_eq_false_iff_not] at h;exact ⟨by omega, h.2.2.1, h.2.2.2⟩
theorem zpH {u : Tm} {k : Int} {l : List Ite} {s : Sgm} (h : atQ u k l s = true) : ¬ s.From = s.To /\ ntQ u k (itg l (s.To - 1)) = true := by
 unfold atQ at h;simp only [Bool.and_eq_true, Bool.not_eq_true', Bool.or_eq_false_iff, decide_eq_false_iff_not] at h;exact ⟨h.1.1, h.2.1⟩
theorem zhW {u : Tm} {k : Int} {l : List Ite} {L : List (Int × Bool)} {s : Sgm} {c : Int} (hs : s.From <= s.To) (h : c ∈ alQ u k l L s) : ChOk s c := by
 unfold alQ at h;rcases zfw h with ⟨h1, _⟩ | ⟨h1, h2, _⟩ | ⟨h1, h2, _⟩ | ⟨h1, h2, h3, _⟩ | ⟨h1, h2, _⟩
 ·exact ⟨by omega, by omega, by omega⟩
 ·exact ⟨fun _ => (zmB h2).1, by omega, by omega⟩
 ·exact ⟨by omega, fun _ => (zmC h2).1, by omega⟩
 ·exact ⟨fun _ => (zmB h2).1, fun _ => (zmC h3).1, by omega⟩
 ·exact ⟨by omega, by omega, fun _ => by have := (zpH h2).1; omega⟩
theorem zot {k : Int} {u : Tm} {s : Sgm} {c : Int} {l0 l : List Ite} (hs : SgOk k l0 s) (hl : l.length = l0.length) (hc : ChOk s c) {i : Int} (hi : 0 <= i) :
 sameI (itg (chN u s c l) i) (itg l i) /\ (¬ i = s.Left -> ¬ i = s.Right -> ¬ i = s.To - 1 -> itg (chN u s c l) i = itg l i) /\ (¬ i = s.Left -> (itg (chN u s c l) i).After = (itg l i).After) := by
 unfold chN;simp only;have A : (if c = 1 \/ c = 3 then upI l s.Left (zG u) else l).length = l.length := by split <;> simp [zdg]
 have B : (if c = 2 \/ c = 3 then upI (if c = 1 \/ c = 3 then upI l s.Left (zG u) else l) s.Right (zaa u) else (if c = 1 \/ c = 3 then upI l s.Left (zG u) else l)).length = l.length := by split <;> simp [zdg, A]
 have h1 : sameI (itg (if c = 1 \/ c = 3 then upI l s.Left (zG u) else l) i) (itg l i) /\ (¬ i = s.Left -> itg (if c = 1 \/ c = 3 then upI l s.Left (zG u) else l) i = itg l i) := by
  split
  ·rename_i h;have h0 := hc.lf h;have hlt : s.Left < l.length := by have := hs.tl; have := hs.ft; rcases hs.lf with h2 | h2 <;> omega
   refine ⟨zf8 (zf9 u) h0 hi hlt, fun hn => ?_⟩;rw [zcc h0 hi hlt, if_neg (by omega)]
  ·exact ⟨zN _, fun _ => rfl⟩
 generalize (if c = 1 \/ c = 3 then upI l s.Left (zG u) else l) = l1 at *
 have h2 : sameI (itg (if c = 2 \/ c = 3 then upI l1 s.Right (zaa u) else l1) i) (itg l1 i) /\ (¬ i = s.Right -> itg (if c = 2 \/ c = 3 then upI l1 s.Right (zaa u) else l1) i = itg l1 i) /\ (itg (if c = 2 \/ c = 3 then upI l1 s.Right (zaa u) else l1) i).After = (itg l1 i).After := by
  split
  ·rename_i h;have h0 := hc.rt h;have hlt : s.Right < l1.length := by rw [A, hl]; rcases hs.rt with h2 | h2 <;> omega
   refine ⟨zf8 (zga u) h0 hi hlt, fun hn => ?_, ?_⟩
   ·rw [zcc h0 hi hlt, if_neg (by omega)]
   ·rw [zcc h0 hi hlt]; split
    ·rename_i h; subst h; rfl
    ·rfl
  ·exact ⟨zN _, fun _ => rfl, rfl⟩
 generalize (if c = 2 \/ c = 3 then upI l1 s.Right (zaa u) else l1) = l2 at *
 have h3 : sameI (itg (if c = 4 then upI l2 (s.To - 1) dblI else l2) i) (itg l2 i) /\ (¬ i = s.To - 1 -> itg (if c = 4 then upI l2 (s.To - 1) dblI else l2) i = itg l2 i) /\ (itg (if c = 4 then upI l2 (s.To - 1) dblI else l2) i).After = (itg l2 i).After := by
  split
  ·rename_i h;have h0 := hc.al h;have hlt : s.To - 1 < l2.length := by rw [B, hl]; have := hs.tl; omega
   have h00 : 0 <= s.To - 1 := by have := hs.f0; omega
   refine ⟨zf8 zlp h00 hi hlt, fun hn => ?_, ?_⟩
   ·rw [zcc h00 hi hlt, if_neg (by omega)]
   ·rw [zcc h00 hi hlt]; split
    ·rename_i h; subst h; rfl
    ·rfl
  ·exact ⟨zN _, fun _ => rfl, rfl⟩
 refine ⟨h3.1.tr (h2.1.tr h1.1), fun a b d => ?_, fun a => ?_⟩
 ·rw [h3.2.1 d, h2.2.1 b, h1.2 a]
 ·rw [h3.2.2, h2.2.2, h1.2 a]
theorem ziQ (q r : Int) (x : Bool) (L : List (Int × Bool)) : mget q (mput r x L) = if r = q then some x else mget q L := by
 exact zda q r x L
structure StaOk (l : List Ite) (S : List Sgm) (M : List Int) (n : Nat) (st : List Ite × List (Int × Bool)) : Prop where
 len : st.1.length = l.length
 same : ∀ i : Int, 0 <= i -> sameI (itg st.1 i) (itg l i)
 rest : ∀ s, S[n]? = some s -> ∀ i : Int, s.From <= i -> itg st.1 i = itg l i /\ mget i st.2 = none
 left : ∀ s, S[n]? = some s -> 0 <= s.Left -> (itg st.1 s.Left).After = (itg l s.Left).After /\ (mget s.Left st.2).getD false = (decide (0 < n) && (decide (M.getD (n - 1) 0 = 2) || decide (M.getD (n - 1) 0 = 3)))
theorem zjJ {u : Tm} {k : Int} {S : List Sgm} {l : List Ite} {M : List Int} (hS : SgsOk k l S) : ∀ n, n <= S.length -> okJ u k S l M n = true -> StaOk l S M n (stK u S l M n)
 | 0, _, _ => by
  refine ⟨rfl, fun _ _ => zN _, fun s hs i hi => ⟨rfl, rfl⟩, fun s hs h0 => ?_⟩;have := hS.st s hs; omega
 | n + 1, hn, hk => by
  have hk : (okJ u k S l M n && decide (M.getD n 0 ∈ alK u k S l M n)) = true := hk;simp only [Bool.and_eq_true, decide_eq_true_eq] at hk;have ih := zjJ hS n (by omega) hk.1;rw [ziN];have hs : S[n]? = some S[n] := lgg (by omega);have hd : S.getD n default = S[n] := by rw [List.getD_eq_getElem?_getD, hs]; rfl
  have hso := hS.all _ (List.mem_of_getElem? hs);unfold alK at hk;rw [hd] at hk ⊢;generalize S[n] = s at *
  generalize stK u S l M n = st at *
  have hc := zhW hso.ft hk.2;generalize hM : M.getD n 0 = c at *
  have hg := fun (i : Int) (hi : 0 <= i) => zot (u := u) hso ih.len hc hi
  have hlt : s.Left < s.From := by have := hso.f0; rcases hso.lf with h | h <;> omega
  refine ⟨by rw [zkq]; exact ih.len, fun i hi => (hg i hi).1.tr (ih.same i hi), fun t ht i hi => ?_, fun t ht h0 => ?_⟩
  ·obtain ⟨n1, n2, n3⟩ := hS.nx n s t hs ht;have hi0 : 0 <= i := by have := (hS.all t (List.mem_of_getElem? ht)).f0; omega
   have hf := hso.ft;have hr : ¬ i = s.Right := by rcases hso.rt with h | h <;> omega
   have := ih.rest s hs i (by omega);refine ⟨by rw [(hg i hi0).2.1 (by omega) hr (by omega)]; exact this.1, ?_⟩;show mget i (chL s c st.2) = none;unfold chL;split
   ·rw [ziQ, if_neg (by omega)]; exact this.2
   ·exact this.2
  ·obtain ⟨n1, n2, n3⟩ := hS.nx n s t hs ht;have hr : 0 <= s.Right := by omega
   have hrt : s.Right = s.To := by rcases hso.rt with h | h <;> omega
   have hf := hso.ft;have hth := ih.rest s hs t.Left (by omega);refine ⟨by rw [(hg t.Left h0).2.2 (by omega), hth.1], ?_⟩;show (mget t.Left (chL s c st.2)).getD false = _;rw [show n + 1 - 1 = n from rfl, hM, decide_eq_true (show 0 < n + 1 by omega), Bool.true_and];unfold chL;split
   ·rename_i h;rw [ziQ, if_pos n1.symm];rcases h with h | h <;> simp [h]
   ·rename_i h;rw [hth.2];have h1 : ¬ c = 2 := fun e => h (.inl e)
    have h2 : ¬ c = 3 := fun e => h (.inr e)
    simp [h1, h2]
end Go.Rse
namespace Go.Rse
open Go Go.Proofs
attribute [local irreducible] Pur yx yz Ex X Fn Imp LeV LeB FnO It yC
def bdX (k : Int) (l : List Ite) : List (List AV) := (bds k l).map fun b => [bdA b]
theorem zhX {k : Int} {l : List Ite} {j : Nat} {zs : List AV} (h : (bdX k l)[j]? = some zs) : ∃ b, (bds k l)[j]? = some b /\ zs = [bdA b] := by
 rw [bdX, List.getElem?_map] at h;cases hk : (bds k l)[j]? with
 | none => simp [hk] at h
 | some b => simp [hk] at h; exact ⟨b, rfl, h.symm⟩
theorem zkt (k : Int) (l : List Ite) : (bdX k l).length = (bdK k l l.length).length + 1 := by unfold bdX; rw [List.length_map, zea]
theorem zku {k : Int} {l : List Ite} (n : Nat) : ∀ d, ∃ r, bdK k l (n + d) = bdK k l n ++ r
 | 0 => ⟨[], by simp⟩
 | d + 1 => by
  obtain ⟨r, hr⟩ := zku (k := k) (l := l) n d;cases hx : l[n + d]? with
  | none =>
   have e : bdK k l (n + d + 1) = bdK k l (n + d) := by
    conv => lhs; unfold bdK
    rw [hx]
   exact ⟨r, by rw [show n + (d + 1) = n + d + 1 from rfl, e]; exact hr⟩
  | some x => exact ⟨r ++ ((if isH k x then [⟨(n + d : Nat), (n + d : Nat) + 1, false⟩] else []) ++ if isC k x then [⟨-1, (n + d : Nat) + 1, false⟩] else []), by
   show bdK k l ((n + d) + 1) = _;rw [za0 hx, hr]; simp only [List.append_assoc]⟩
theorem zjK {k : Int} {l : List Ite} {n : Nat} {p : List Bd} {b : Bd} {q : List Bd} (hn : n + 1 <= l.length) (h : bdK k l (n + 1) = p ++ b :: q) : (bds k l)[p.length]? = some b := by
 obtain ⟨r, hr⟩ := zku (k := k) (l := l) (n + 1) (l.length - (n + 1));rw [show n + 1 + (l.length - (n + 1)) = l.length by omega, h] at hr;unfold bds;rw [hr]; simp
theorem zgb {k : Int} {l : List Ite} {i : Nat} {b : Bd} (h : (bds k l)[i]? = some b) : (bdX k l)[i]? = some [bdA b] := by
 unfold bdX; rw [List.getElem?_map, h]; rfl
theorem zmD {k : Int} {l : List Ite} {n : Nat} {x : Ite} (hx : l[n]? = some x) (h : ¬ isH k x) :
 (bdK k l (n + 1)).length = (bdK k l n).length + (if isC k x then 1 else 0) /\ (isC k x -> (bdX k l)[(bdK k l n).length]? = some [bdA ⟨-1, (n : Int) + 1, false⟩]) := by
 have hs := za0 (k := k) hx;rw [if_neg h, List.append_nil] at hs;have hlt := (List.getElem?_eq_some_iff.1 hx).1;refine ⟨by rw [hs, List.length_append]; split <;> rfl, fun hc => zgb (zjK (q := []) (n := n) (by omega) (by rw [hs, if_pos hc]))⟩
theorem zsF {k : Int} {l : List Ite} {n : Nat} {x : Ite} (hx : l[n]? = some x) (h : isH k x) :
 (bdX k l)[(bdK k l n).length]? = some [bdA ⟨(n : Int), (n : Int) + 1, false⟩] /\ (bdK k l (n + 1)).length = (bdK k l n).length + 1 + (if isC k x then 1 else 0) /\ (isC k x -> (bdX k l)[(bdK k l n).length + 1]? = some [bdA ⟨-1, (n : Int) + 1, false⟩]) := by
 have hs := za0 (k := k) hx;rw [if_pos h] at hs;have hlt := (List.getElem?_eq_some_iff.1 hx).1;refine ⟨zgb (zjK (n := n) (by omega) (by rw [hs, List.append_assoc]; rfl)), by rw [hs, List.length_append, List.length_append]; split <;> rfl, fun hc => ?_⟩;have := zgb (zjK (k := k) (l := l) (p := bdK k l n ++ [⟨(n : Int), (n : Int) + 1, false⟩]) (q := []) (n := n) (b := ⟨-1, (n : Int) + 1, false⟩) (by omega) (by rw [hs, if_pos hc]));rw [List.length_append] at this; exact this
theorem zua (k : Int) (l : List Ite) : (bdX k l)[0]? = some [bdA ⟨-1, 0, false⟩] := zgb (ziP k l)
theorem zqX (k : Int) (l : List Ite) : (bdX k l)[(bdK k l l.length).length]? = some [bdA ⟨-1, (l.length : Int), true⟩] := zgb (by unfold bds; simp)
attribute [local irreducible] bdK bds bdX
set_option maxHeartbeats 4000000 in
theorem zcJ (k : Int) (l : List Ite) (hl : l.length <= 4000000) : It Tryz.prog 179 [.ept (fun _ : Unit => [.sl itE l]) () 0, .ept (fun _ : Unit => [iv k]) () 0] (bdX k l) := by
 have hp0 : (bdK k l 0).length = 1 := by unfold bdK; rfl
 have hpl := zdf k l l.length;refine It.intro (ts := fun lY => [(0, .yv lY), (1, .ept (fun _ : Unit => [.sl itE l]) () 0), (2, .ept (fun _ : Unit => [iv k]) () 0)]) (n := 58) (by kernel_rfl) Tryz.func179 rfl Tryz.ntmps179 rfl (fun _ => rfl) (by simp) (fun g w d ds Y lY hY => ?_);apply yd;apply yb;iterate 2 refine ya ?_
 refine Ex.yield hY rfl rfl rfl (LeL.refl _) rfl rfl (zua k l) rfl (fun b => ?_);refine ye ?_;refine yk rfl ?_ ?_<;>intro hc1
 ·subst hc1;refine X.ret ?_;refine ⟨.inr rfl, _, false, rfl, fun hb => by simp at hb⟩
 subst hc1;apply yf;apply yd;apply yb;refine yn ?_;apply X.block;refine zh (ι := Nat) (fun (n : Nat) => [(0, .yv lY), (1, .ept (fun _ : Unit => [.sl itE l]) () 0), (2, .ept (fun _ : Unit => [iv k]) () 0), (10, itsA l), (11, iv l.length), (12, iv (n : Int))]) (fun (n : Nat) => [(1000000, .yld (bdK k l n).length true)]) (fun (n : Nat) => n <= l.length) (fun (n : Nat) => l.length - n) 0 (fun n hk => ?_);apply yb;refine ye ?_;apply yd;refine yk rfl ?_ ?_<;>intro hc2
 ·obtain ⟨x, hx⟩ : ∃ x, l[n]? = some x := ⟨_, lgg (by omega)⟩;have hx2 : l[(n : Int).toNat]? = some x := by simpa using hx
  apply yf;apply yd;apply X.block;apply yb;iterate 3 refine ya ?_
  refine yH ?_;refine ya ?_;refine Ex.mo ?_;apply Ex.nil;iterate 2 apply yd
  have hcs : x.Color = true \/ (x.Color = false /\ ¬ x.Value <= k) \/ (x.Color = false /\ x.Value <= k) := by cases x.Color <;> simp; omega
  rcases hcs with hp | ⟨hp, hq⟩ | ⟨hp, hq⟩
  ·have hg3 : ((!x.Color) == true) = false := by rw [hp]; rfl
   have hnh : ¬ isH k x := fun h => by rw [h.1] at hp; cases hp
   have hZ := zmD (k := k) hx hnh;obtain ⟨hS, hC⟩ := hZ;apply yc;(iterate 4 refine ya ?_);(iterate 4 refine zaJ ?_);(iterate 2 refine ya ?_);(iterate 7 refine zaJ ?_);refine ye ?_;refine yk rfl ?_ ?_<;>intro hc3
   ·exact absurd hc3 (by decide)
   apply yf;apply yd;have hcs2 : ¬ 0 < x.Cut \/ (0 < x.Cut /\ ¬ x.Cut <= k) \/ (0 < x.Cut /\ x.Cut <= k) := by omega
   rcases hcs2 with ha | ⟨ha, hb2⟩ | ⟨ha, hb2⟩
   ·have hg3 : (decide (0 < x.Cut) == true) = false := by rw [decide_eq_false ha]; rfl
    rw [if_neg (fun h => ha h.1), Nat.add_zero] at hS;apply yc;(iterate 4 refine ya ?_);(iterate 4 refine zaJ ?_);(iterate 2 refine ya ?_);(iterate 6 refine zaJ ?_);refine ye ?_;refine yk rfl ?_ ?_<;>intro hc4
    ·exact absurd hc4 (by decide)
    apply yf;apply yc;refine yh ?_;refine yP (n + 1)
   ·have hg3 : (decide (0 < x.Cut) == true) = true := by rw [decide_eq_true ha]; rfl
    have hg9 : (decide (x.Cut <= k) == true) = false := by rw [decide_eq_false hb2]; rfl
    rw [if_neg (fun h => hb2 h.2), Nat.add_zero] at hS;apply yc;(iterate 4 refine ya ?_);(iterate 4 refine zx ?_);(iterate 2 refine ya ?_);(iterate 6 refine zaJ ?_);refine ye ?_;refine yk rfl ?_ ?_<;>intro hc5
    ·exact absurd hc5 (by decide)
    apply yf;apply yc;refine yh ?_;refine yP (n + 1)
   ·have hg3 : (decide (0 < x.Cut) == true) = true := by rw [decide_eq_true ha]; rfl
    have hg9 : (decide (x.Cut <= k) == true) = true := by rw [decide_eq_true hb2]; rfl
    have hY2 := hC ⟨ha, hb2⟩;rw [if_pos ⟨ha, hb2⟩] at hS;apply yc;(iterate 4 refine ya ?_);(iterate 4 refine zx ?_);(iterate 2 refine ya ?_);(iterate 4 refine zx ?_);refine zbk hY rfl rfl rfl (fun _ => ⟨_, _, rfl, rfl, rfl, LeL.refl _, rfl, rfl, hY2, fun b => ?_⟩) (fun h => absurd (h.symm.trans hg9) (by decide));refine zx ?_;refine ye ?_;refine yk rfl ?_ ?_<;>intro hc6
    ·subst hc6;refine X.ret ?_;refine ⟨.inr rfl, _, false, rfl, fun hb => by simp at hb⟩
    subst hc6;apply yf;apply yc;refine yh ?_;refine yP (n + 1)
  ·have hg3 : ((!x.Color) == true) = true := by rw [hp]; rfl
   have hg9 : (decide (x.Value <= k) == true) = false := by rw [decide_eq_false hq]; rfl
   have hnh : ¬ isH k x := fun h => hq h.2
   have hZ := zmD (k := k) hx hnh;obtain ⟨hS, hC⟩ := hZ;apply yc;(iterate 4 refine ya ?_);(iterate 4 refine zx ?_);(iterate 2 refine ya ?_);(iterate 7 refine zaJ ?_);refine ye ?_;refine yk rfl ?_ ?_<;>intro hc7
   ·exact absurd hc7 (by decide)
   apply yf;apply yd;have hcs2 : ¬ 0 < x.Cut \/ (0 < x.Cut /\ ¬ x.Cut <= k) \/ (0 < x.Cut /\ x.Cut <= k) := by omega
   rcases hcs2 with ha | ⟨ha, hb2⟩ | ⟨ha, hb2⟩
   ·have hg3 : (decide (0 < x.Cut) == true) = false := by rw [decide_eq_false ha]; rfl
    rw [if_neg (fun h => ha h.1), Nat.add_zero] at hS;apply yc;(iterate 4 refine ya ?_);(iterate 4 refine zaJ ?_);(iterate 2 refine ya ?_);(iterate 6 refine zaJ ?_);refine ye ?_;refine yk rfl ?_ ?_<;>intro hc8
    ·exact absurd hc8 (by decide)
    apply yf;apply yc;refine yh ?_;refine yP (n + 1)
   ·have hg3 : (decide (0 < x.Cut) == true) = true := by rw [decide_eq_true ha]; rfl
    have hg9 : (decide (x.Cut <= k) == true) = false := by rw [decide_eq_false hb2]; rfl
    rw [if_neg (fun h => hb2 h.2), Nat.add_zero] at hS;apply yc;(iterate 4 refine ya ?_);(iterate 4 refine zx ?_);(iterate 2 refine ya ?_);(iterate 6 refine zaJ ?_);refine ye ?_;refine yk rfl ?_ ?_<;>intro hc9
    ·exact absurd hc9 (by decide)
    apply yf;apply yc;refine yh ?_;refine yP (n + 1)
   ·have hg3 : (decide (0 < x.Cut) == true) = true := by rw [decide_eq_true ha]; rfl
    have hg9 : (decide (x.Cut <= k) == true) = true := by rw [decide_eq_true hb2]; rfl
    have hY2 := hC ⟨ha, hb2⟩;rw [if_pos ⟨ha, hb2⟩] at hS;apply yc;(iterate 4 refine ya ?_);(iterate 4 refine zx ?_);(iterate 2 refine ya ?_);(iterate 4 refine zx ?_);refine zbk hY rfl rfl rfl (fun _ => ⟨_, _, rfl, rfl, rfl, LeL.refl _, rfl, rfl, hY2, fun b => ?_⟩) (fun h => absurd (h.symm.trans hg9) (by decide));refine zx ?_;refine ye ?_;refine yk rfl ?_ ?_<;>intro hc10
    ·subst hc10;refine X.ret ?_;refine ⟨.inr rfl, _, false, rfl, fun hb => by simp at hb⟩
    subst hc10;apply yf;apply yc;refine yh ?_;refine yP (n + 1)
  ·have hg3 : ((!x.Color) == true) = true := by rw [hp]; rfl
   have hg9 : (decide (x.Value <= k) == true) = true := by rw [decide_eq_true hq]; rfl
   have hZ := zsF (k := k) hx ⟨hp, hq⟩;obtain ⟨hY1, hS, hC⟩ := hZ;apply yc;(iterate 4 refine ya ?_);(iterate 4 refine zx ?_);(iterate 2 refine ya ?_);(iterate 5 refine zx ?_);refine zbk hY rfl rfl rfl (fun _ => ⟨_, _, rfl, rfl, rfl, LeL.refl _, rfl, rfl, hY1, fun b => ?_⟩) (fun h => absurd (h.symm.trans hg9) (by decide));refine zx ?_;refine ye ?_;refine yk rfl ?_ ?_<;>intro hc11
   ·subst hc11;refine X.ret ?_;refine ⟨.inr rfl, _, false, rfl, fun hb => by simp at hb⟩
   subst hc11;apply yf;apply yd;have hcs2 : ¬ 0 < x.Cut \/ (0 < x.Cut /\ ¬ x.Cut <= k) \/ (0 < x.Cut /\ x.Cut <= k) := by omega
   rcases hcs2 with ha | ⟨ha, hb2⟩ | ⟨ha, hb2⟩
   ·have hg3 : (decide (0 < x.Cut) == true) = false := by rw [decide_eq_false ha]; rfl
    rw [if_neg (fun h => ha h.1), Nat.add_zero] at hS;apply yc;(iterate 4 refine ya ?_);(iterate 4 refine zaJ ?_);(iterate 2 refine ya ?_);(iterate 6 refine zaJ ?_);refine ye ?_;refine yk rfl ?_ ?_<;>intro hc12
    ·exact absurd hc12 (by decide)
    apply yf;apply yc;refine yh ?_;refine yP (n + 1)
   ·have hg3 : (decide (0 < x.Cut) == true) = true := by rw [decide_eq_true ha]; rfl
    have hg9 : (decide (x.Cut <= k) == true) = false := by rw [decide_eq_false hb2]; rfl
    rw [if_neg (fun h => hb2 h.2), Nat.add_zero] at hS;apply yc;(iterate 4 refine ya ?_);(iterate 4 refine zx ?_);(iterate 2 refine ya ?_);(iterate 6 refine zaJ ?_);refine ye ?_;refine yk rfl ?_ ?_<;>intro hc13
    ·exact absurd hc13 (by decide)
    apply yf;apply yc;refine yh ?_;refine yP (n + 1)
   ·have hg3 : (decide (0 < x.Cut) == true) = true := by rw [decide_eq_true ha]; rfl
    have hg9 : (decide (x.Cut <= k) == true) = true := by rw [decide_eq_true hb2]; rfl
    have hY2 := hC ⟨ha, hb2⟩;rw [if_pos ⟨ha, hb2⟩] at hS;apply yc;(iterate 4 refine ya ?_);(iterate 4 refine zx ?_);(iterate 2 refine ya ?_);(iterate 4 refine zx ?_);refine zbk hY rfl rfl rfl (fun _ => ⟨_, _, rfl, rfl, rfl, LeL.refl _, rfl, rfl, hY2, fun b => ?_⟩) (fun h => absurd (h.symm.trans hg9) (by decide));refine zx ?_;refine ye ?_;refine yk rfl ?_ ?_<;>intro hc14
    ·subst hc14;refine X.ret ?_;refine ⟨.inr rfl, _, false, rfl, fun hb => by simp at hb⟩
    subst hc14;apply yf;apply yc;refine yh ?_;refine yP (n + 1)
 ·have hkl : n = l.length := by omega
  subst hkl;apply X.exit;apply yc;iterate 4 refine ya ?_
  refine Ex.yield hY rfl rfl rfl (LeL.refl _) rfl rfl (zqX k l) rfl (fun b => ?_);apply Ex.nil;refine ⟨.inl rfl, _, b, rfl, fun h => by rw [zkt, h]; rfl⟩
theorem zdE (k : Int) (l : List Ite) : Fn Tryz.prog 139 [iv k, itsA l] (.fn 179 [.ept (fun _ : Unit => [.sl itE l]) () 0, .ept (fun _ : Unit => [iv k]) () 0]) := by
 refine Fn.go Tryz.func139 Tryz.ntmps139 (fun g w d => ?_);apply yb;iterate 2 refine zcu ?_
 refine ya ?_;apply yj;refine yh ?_;refine X.ret ?_;refine RetQ.imp ((yU (k := 2) rfl rfl).trans (yU (k := 3) rfl rfl)) ?_;refine ym ?_;all_goals (first | rfl | (simp_all; done))
end Go.Rse
