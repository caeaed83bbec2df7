/-
  Plain: which durations an item can have after the levels' choices.
-/
import Derived.Test.YtbilklnipfabpaaGreatDoorZJCho2
import Derived.Test.YtbilklnipfabpaaGreatDoorZJSpell2
import Derived.Test.YtbilklnipfabpaaGreatDoorZJItC0
set_option linter.unusedSimpArgs false
set_option linter.unusedVariables false
namespace Go.Rse
open Go Go.Proofs
def ls1 (u : Tm) (L : List Tm) : List Tm := (L.filter fun t => decide (0 < cmpV t u)).map fun t => subV t u
def duS (u : Tm) (k v : Int) (L : List Tm) : List Tm := L ++ ((if v <= k then ls1 u L else []) ++ ((if v < k then ls1 u (ls1 u L) else []) ++ (if v = k + 1 then [addV u u] else [])))
def duF (m : Mn) (v : Int) : List Int -> List Tm -> List Tm
 | [], L => L
 | k :: r, L => duF m v r (duS (unT m k) k v L)
theorem zgq {u : Tm} {L L' : List Tm} (h : ∀ t ∈ L, t ∈ L') : ∀ t ∈ ls1 u L, t ∈ ls1 u L' := fun t ht => by
 unfold ls1 at ht ⊢;obtain ⟨x, hx, rfl⟩ := List.mem_map.1 ht;rw [List.mem_filter] at hx;exact List.mem_map.2 ⟨x, List.mem_filter.2 ⟨h x hx.1, hx.2⟩, rfl⟩
theorem zjW {u t : Tm} {L : List Tm} (h : t ∈ L) (hc : 0 < cmpV t u) : subV t u ∈ ls1 u L := List.mem_map.2 ⟨t, List.mem_filter.2 ⟨h, decide_eq_true hc⟩, rfl⟩
theorem znb {u : Tm} {k v : Int} {L L' : List Tm} (h : ∀ t ∈ L, t ∈ L') : ∀ t ∈ duS u k v L, t ∈ duS u k v L' := fun t ht => by
 unfold duS at ht ⊢;simp only [List.mem_append] at ht ⊢;rcases ht with ht | ht | ht | ht
 ·exact .inl (h t ht)
 ·refine .inr (.inl ?_);split at ht
  ·rename_i hh; rw [if_pos hh]; exact zgq h t ht
  ·simp at ht
 ·refine .inr (.inr (.inl ?_));split at ht
  ·rename_i hh; rw [if_pos hh]; exact zgq (zgq h) t ht
  ·simp at ht
 ·exact .inr (.inr (.inr ht))
theorem zi9 {m : Mn} {v : Int} : ∀ (L : List Int) {A B : List Tm}, (∀ t ∈ A, t ∈ B) -> ∀ t ∈ duF m v L A, t ∈ duF m v L B
 | [], A, B, h => h
 | k :: r, A, B, h => zi9 r (znb h)
theorem zs7 {u t : Tm} {k v : Int} : t ∈ duS u k v [t] := by unfold duS; simp
theorem zqe {u t : Tm} {k v : Int} (hv : v <= k) (hc : 0 < cmpV t u) : subV t u ∈ duS u k v [t] := by
 unfold duS; rw [if_pos hv];exact List.mem_append.2 (.inr (List.mem_append.2 (.inl (zjW (by simp) hc))))
theorem zs8 {u t : Tm} {k v : Int} (hv : v < k) (hc : 0 < cmpV t u) (hd : 0 < cmpV (subV t u) u) : subV (subV t u) u ∈ duS u k v [t] := by
 unfold duS; rw [if_pos hv];exact List.mem_append.2 (.inr (List.mem_append.2 (.inr (List.mem_append.2 (.inl (zjW (zjW (by simp) hc) hd))))))
theorem zs9 {u t : Tm} {k v : Int} (hv : v = k + 1) : addV u u ∈ duS u k v [t] := by
 unfold duS; rw [if_pos hv]; simp
structure DuJ (u : Tm) (k : Int) (l : List Ite) (S : List Sgm) (n : Nat) (st : List Ite × List (Int × Bool)) : Prop where
 fx : ∀ i : Int, 0 <= i -> i < l.length -> (itg l i).Fixed = true -> (itg st.1 i).Dur = (itg l i).Dur
 du : ∀ i : Int, 0 <= i -> i < l.length -> (itg st.1 i).Dur ∈ duS u k (itg l i).Value [(itg l i).Dur]
 lf : ∀ s, S[n]? = some s -> 0 <= s.Left -> (itg st.1 s.Left).Dur = (itg l s.Left).Dur \/ ((mget s.Left st.2).getD false = true /\ 0 < cmpV (itg l s.Left).Dur u /\ (itg st.1 s.Left).Dur = subV (itg l s.Left).Dur u)
theorem zo7 {u : Tm} {s : Sgm} {c : Int} {l : List Ite} {i : Int} (hi : 0 <= i) (hlf : c = 1 \/ c = 3 -> 0 <= s.Left /\ s.Left < l.length) (hrt : c = 2 \/ c = 3 -> 0 <= s.Right /\ s.Right < l.length) (hto : c = 4 -> 1 <= s.To /\ s.To <= l.length) (hne : ¬ s.Left = s.Right \/ ¬ c = 3) :
 (itg (chN u s c l) i).Dur = if (c = 1 \/ c = 3) /\ i = s.Left then subV (itg l i).Dur u else if (c = 2 \/ c = 3) /\ i = s.Right then subV (itg l i).Dur u else if c = 4 /\ i = s.To - 1 then addV (itg l i).Dur (itg l i).Dur else (itg l i).Dur := by
 have nL : ∀ {a b : Prop}, ¬ a -> ¬ (a /\ b) := fun h x => h x.1
 have nR : ∀ {a b : Prop}, ¬ b -> ¬ (a /\ b) := fun h x => h x.2
 unfold chN;simp only;by_cases h4 : c = 4
 ·have n1 : ¬ (c = 1 \/ c = 3) := by omega
  have n2 : ¬ (c = 2 \/ c = 3) := by omega
  have ht := hto h4;rw [if_neg n2, if_neg n1, if_pos h4, if_neg (nL (b := i = s.Left) n1), if_neg (nL (b := i = s.Right) n2), zag (by omega) hi (by omega)];by_cases e : i = s.To - 1
  ·rw [if_pos e.symm, if_pos ⟨h4, e⟩, e]; rfl
  ·rw [if_neg (fun h => e h.symm), if_neg (nR (a := c = 4) e)]
 ·rw [if_neg h4, if_neg (nL (b := i = s.To - 1) h4)];by_cases h1 : c = 1 \/ c = 3
  ·obtain ⟨a1, a2⟩ := hlf h1;by_cases h2 : c = 2 \/ c = 3
   ·obtain ⟨b1, b2⟩ := hrt h2;have hn : ¬ s.Left = s.Right := hne.resolve_right (by omega);rw [if_pos h2, if_pos h1, zag b1 hi (by rw [zck]; exact b2)];by_cases e : i = s.Right
    ·have e' : ¬ i = s.Left := fun h => hn (h.symm.trans e)
     rw [if_pos e.symm, zag a1 b1 a2, if_neg hn, if_neg (nR (a := c = 1 \/ c = 3) e'), if_pos ⟨h2, e⟩, e]; rfl
    ·rw [if_neg (fun h => e h.symm), zag a1 hi a2, if_neg (nR (a := c = 2 \/ c = 3) e)];by_cases f : i = s.Left
     ·rw [if_pos f.symm, if_pos ⟨h1, f⟩, f]; rfl
     ·rw [if_neg (fun h => f h.symm), if_neg (nR (a := c = 1 \/ c = 3) f)]
   ·rw [if_neg h2, if_pos h1, zag a1 hi a2, if_neg (nL (b := i = s.Right) h2)];by_cases f : i = s.Left
    ·rw [if_pos f.symm, if_pos ⟨h1, f⟩, f]; rfl
    ·rw [if_neg (fun h => f h.symm), if_neg (nR (a := c = 1 \/ c = 3) f)]
  ·rw [if_neg (nL (b := i = s.Left) h1)];by_cases h2 : c = 2 \/ c = 3
   ·obtain ⟨b1, b2⟩ := hrt h2;rw [if_pos h2, if_neg h1, zag b1 hi b2];by_cases e : i = s.Right
    ·rw [if_pos e.symm, if_pos ⟨h2, e⟩, e]; rfl
    ·rw [if_neg (fun h => e h.symm), if_neg (nR (a := c = 2 \/ c = 3) e)]
   ·rw [if_neg h2, if_neg h1, if_neg (nL (b := i = s.Right) h2)]
theorem znc {u : Tm} {k : Int} {S : List Sgm} {l : List Ite} {M : List Int} (hS : SgsOk k l S) : ∀ n, n <= S.length -> okJ u k S l M n = true -> DuJ u k l S n (stK u S l M n)
 | 0, _, _ => by
  refine ⟨fun i _ _ _ => rfl, fun i _ _ => zs7, fun s hs h0 => ?_⟩;have := hS.st s hs; omega
 | n + 1, hn, hk => by
  have hk : (okJ u k S l M n && decide (M.getD n 0 ∈ alK u k S l M n)) = true := hk;simp only [Bool.and_eq_true, decide_eq_true_eq] at hk;have ih := znc hS n (by omega) hk.1;have sk := zf9 hS n (by omega) hk.1;rw [zhn];have hs : S[n]? = some S[n] := lgg (by omega);have hd : S.getD n default = S[n] := by rw [List.getD_eq_getElem?_getD, hs]; rfl
  have hso := hS.all _ (List.mem_of_getElem? hs);unfold alK at hk;rw [hd] at hk ⊢;generalize S[n] = s at *
  generalize stK u S l M n = st at *
  generalize M.getD n 0 = c at *
  have hc := zf7 hso.ft hk.2;have hal := hk.2;unfold alQ at hal;have hlen := sk.len;have f0 := hso.f0;have ft := hso.ft;have tl := hso.tl
  have hlf : (c = 1 \/ c = 3) -> 0 <= s.Left /\ s.Left < l.length /\ s.Left < s.From /\ (itg l s.Left).Value <= k /\ (itg l s.Left).Fixed = false := fun h => by
   have := hc.lf h;rcases hso.lf with h2 | ⟨h2, h3, h4, -, h5⟩
   ·omega
   ·exact ⟨h2, by omega, by omega, h4, h5⟩
  have hrt : (c = 2 \/ c = 3) -> 0 <= s.Right /\ s.Right < l.length /\ s.Right = s.To /\ (itg l s.Right).Value <= k /\ (itg l s.Right).Fixed = false := fun h => by
   have := hc.rt h;rcases hso.rt with h2 | ⟨h2, h3, h4, -, h5⟩
   ·omega
   ·exact ⟨by omega, by omega, h2, h4, h5⟩
  have hto : c = 4 -> s.From < s.To := hc.al
  have hpo : (c = 1 \/ c = 3) -> poQ u k st.1 st.2 s = true := fun hh => by
   rcases zcm hal with ⟨h1, _⟩ | ⟨h1, h2, _⟩ | ⟨h1, h2, _⟩ | ⟨h1, h2, h3, _⟩ | ⟨h1, h2, _⟩
   ·omega
   ·exact h2
   ·omega
   ·exact h2
   ·omega
  have han : (c = 2 \/ c = 3) -> anQ u k st.1 s = true := fun hh => by
   rcases zcm hal with ⟨h1, _⟩ | ⟨h1, h2, _⟩ | ⟨h1, h2, _⟩ | ⟨h1, h2, h3, _⟩ | ⟨h1, h2, _⟩
   ·omega
   ·omega
   ·exact h2
   ·exact h3
   ·omega
  have hat : c = 4 -> atQ u k st.1 s = true := fun hh => by
   rcases zcm hal with ⟨h1, _⟩ | ⟨h1, h2, _⟩ | ⟨h1, h2, _⟩ | ⟨h1, h2, h3, _⟩ | ⟨h1, h2, _⟩
   ·omega
   ·omega
   ·omega
   ·omega
   ·exact h2
  have hdur := fun (i : Int) (hi : 0 <= i) => zo7 (u := u) (s := s) (c := c) (l := st.1) hi (fun h => by have := hlf h; omega) (fun h => by have := hrt h; omega) (fun h => by have := hto h; omega)
   (by by_cases h3 : c = 3
       ·have h5 := hlf (.inr h3); have h6 := hrt (.inr h3); exact .inl (by omega)
       ·exact .inr h3)
  have hrest := sk.rest s hs
  have key : ∀ i : Int, 0 <= i -> i < l.length -> ((itg l i).Fixed = true -> (itg (chN u s c st.1) i).Dur = (itg l i).Dur) /\ (itg (chN u s c st.1) i).Dur ∈ duS u k (itg l i).Value [(itg l i).Dur] := fun i hi hil => by
   rw [hdur i hi];split
   ·rename_i h;obtain ⟨h1, rfl⟩ := h;obtain ⟨a1, a2, a3, a4, a5⟩ := hlf h1;refine ⟨fun hf => (by rw [a5] at hf; cases hf), ?_⟩;have hp := hpo h1;unfold poQ at hp;simp only [Bool.and_eq_true] at hp;obtain ⟨-, ⟨hp1, hp2⟩, -⟩ := hp;unfold lgQ at hp2;rw [decide_eq_true_iff] at hp2;rcases ih.lf s hs a1 with e | ⟨e1, e2, e3⟩
    ·rw [e] at hp2 ⊢; exact zqe a4 hp2
    ·rw [e3] at hp2 ⊢;rw [e1] at hp1;have hv : (itg st.1 s.Left).Value < k := by simpa using hp1
     rw [(sk.same s.Left a1).2.1] at hv;exact zs8 hv e2 hp2
   ·split
    ·rename_i h;obtain ⟨h1, rfl⟩ := h;obtain ⟨a1, a2, a3, a4, a5⟩ := hrt h1;refine ⟨fun hf => (by rw [a5] at hf; cases hf), ?_⟩;have hp := han h1;unfold anQ at hp;simp only [Bool.and_eq_true] at hp;obtain ⟨-, -, hp2, -⟩ := hp;unfold lgQ at hp2;rw [decide_eq_true_iff] at hp2;have e := (hrest s.Right (by omega)).1;rw [e] at hp2 ⊢;exact zqe a4 hp2
    ·split
     ·rename_i h;obtain ⟨h1, rfl⟩ := h;have hp := hat h1;have ht := hto h1;unfold atQ ntQ at hp;have e := (hrest (s.To - 1) (by omega)).1;rw [e] at hp ⊢;simp only [Bool.and_eq_true, decide_eq_true_eq, Bool.not_eq_true'] at hp;obtain ⟨-, ⟨⟨-, hfx⟩, hv⟩, hp2⟩ := And.intro hp.1 (And.intro (And.intro (And.intro hp.2.1.1.1.1 hp.2.1.1.1.2) hp.2.1.1.2) hp.2.1.2);refine ⟨fun hf => (by rw [hfx] at hf; cases hf), ?_⟩;rw [hp2]; exact zs9 hv
     ·exact ⟨ih.fx i hi hil, ih.du i hi hil⟩
  refine ⟨fun i h1 h2 => (key i h1 h2).1, fun i h1 h2 => (key i h1 h2).2, fun t ht h0 => ?_⟩;obtain ⟨n1, n2, n3⟩ := hS.nx n s t hs ht;have hr0 : 0 <= s.Right := by omega
  have hrr : s.Right = s.To := by rcases hso.rt with h | h <;> omega
  have hrl : s.Right < l.length := by rcases hso.rt with h | h <;> omega
  have e := (hrest s.Right (by omega)).1;rw [n1];show (itg (chN u s c st.1) s.Right).Dur = _ \/ ((mget s.Right (chL s c st.2)).getD false = true /\ _);rw [hdur s.Right hr0];by_cases h2 : c = 2 \/ c = 3
  ·refine .inr ⟨?_, ?_, ?_⟩
   ·unfold chL; rw [if_pos h2, zf8, if_pos rfl]; rfl
   ·have hp := han h2;unfold anQ at hp;simp only [Bool.and_eq_true] at hp;obtain ⟨-, -, hp2, -⟩ := hp;unfold lgQ at hp2;rw [decide_eq_true_iff, e] at hp2;exact hp2
   ·rw [e];rw [if_neg (fun h => by have := hlf h.1; omega), if_pos ⟨h2, rfl⟩]
  ·refine .inl ?_;rw [e, if_neg (fun h => by have := hlf h.1; omega), if_neg (fun h => h2 h.1), if_neg (fun h => by omega)]
theorem zrw {m : Mn} {k : Int} {l : List Ite} {M : List Int} (h : apE m k l M = 0) : (apV m k l M).length = l.length /\ ∀ i : Int, 0 <= i -> i < l.length -> sameI (itg (apV m k l M) i) (itg l i) /\ ((itg l i).Fixed = true -> (itg (apV m k l M) i).Dur = (itg l i).Dur) /\ (itg (apV m k l M) i).Dur ∈ duS (unT m k) k (itg l i).Value [(itg l i).Dur] := by
 obtain ⟨h1, h2, h3⟩ := zkE h;have hS := zcl h1;have i1 := znc hS M.length (by omega) h3;have i2 := zf9 hS M.length (by omega) h3;unfold apV; rw [if_pos h];exact ⟨i2.len, fun i hi hl => ⟨i2.same i hi, i1.fx i hi hl, i1.du i hi hl⟩⟩
theorem znd {m : Mn} : ∀ (L : List Int) (I : List Ite) (C : List Int) (J : List Ite), gLv m L I C J -> J.length = I.length /\ ∀ i : Int, 0 <= i -> i < I.length -> sameI (itg J i) (itg I i) /\ ((itg I i).Fixed = true -> (itg J i).Dur = (itg I i).Dur) /\ (itg J i).Dur ∈ duF m (itg I i).Value L [(itg I i).Dur]
 | [], I, C, J, h => by
  rw [h.2];exact ⟨rfl, fun i _ _ => ⟨zI _, fun _ => rfl, by unfold duF; simp⟩⟩
 | k :: r, I, C, J, h => by
  obtain ⟨M, C', -, h1, h2⟩ := h;obtain ⟨a1, a2⟩ := zrw h1;obtain ⟨b1, b2⟩ := znd r _ C' J h2;refine ⟨b1.trans a1, fun i hi hl => ?_⟩;obtain ⟨c1, c2, c3⟩ := a2 i hi hl;obtain ⟨d1, d2, d3⟩ := b2 i hi (by rw [a1]; exact hl);refine ⟨d1.tr c1, fun hf => (d2 (c1.2.2.2.2.1.trans hf)).trans (c2 hf), ?_⟩;rw [c1.2.1] at d3;unfold duF;exact zi9 r (fun t ht => by rw [List.mem_singleton] at ht; rw [ht]; exact c3) _ d3
def duQ (m : Mn) (v : Int) : Bool := (duF m v (perfL m) [fullT m v]).all fun t => decide (t ∈ wdL m v 1) || decide (t ∈ wdL m v 3) || decide (t ∈ wdL m v 4)
theorem zo8 : zd6 duQ = true := by kernel_rfl
end Go.Rse
namespace Go.Rse
open Go Go.Proofs
structure GT (B : Int) (t : Tm) : Prop where
 c : ckT t = 0
 d : t.D ∣ 48
 b : t.N <= B * t.D
theorem zo9 : ∀ k : Fin 49, (k.val ∣ 48) -> k.val = 1 \/ k.val = 2 \/ k.val = 3 \/ k.val = 4 \/ k.val = 6 \/ k.val = 8 \/ k.val = 12 \/ k.val = 16 \/ k.val = 24 \/ k.val = 48 := by decide
theorem d48 {d : Int} (h1 : 1 <= d) (h : d ∣ 48) : d = 1 \/ d = 2 \/ d = 3 \/ d = 4 \/ d = 6 \/ d = 8 \/ d = 12 \/ d = 16 \/ d = 24 \/ d = 48 := by
 have h48 := Int.le_of_dvd (by decide) h;obtain ⟨k, rfl⟩ := Int.eq_ofNat_of_zero_le (show 0 <= d by omega);have hk : k ∣ 48 := by exact_mod_cast h
 have := zo9 ⟨k, by omega⟩ hk;simp only at this;omega
theorem GT.dc {B : Int} {t : Tm} (h : GT B t) : t.D = 1 \/ t.D = 2 \/ t.D = 3 \/ t.D = 4 \/ t.D = 6 \/ t.D = 8 \/ t.D = 12 \/ t.D = 16 \/ t.D = 24 \/ t.D = 48 := d48 (zS h.c).2.2.2.2.1 h.d
theorem GT.mono {A B : Int} {t : Tm} (h : GT A t) (hAB : A <= B) : GT B t := ⟨h.c, h.d, by
 have h1 := (zS h.c).2.2.1;exact Int.le_trans h.b (Int.mul_le_mul_of_nonneg_right hAB h1)⟩
theorem zqf {n d B : Int} (h0 : 0 <= n) (h1 : 1 <= d) (hn : n <= 1099511627776) (hd : d <= 1048576) (hb : n <= B * d) (h48 : d ∣ 48 * n) : tmkE n d = 0 /\ GT B (tmkT n d) := by
 have hg := zeM (n := n) (d := d) (by omega);have gn : gI n d ∣ n := Int.ofNat_dvd_left.2 (Nat.gcd_dvd_left _ _);have gd : gI n d ∣ d := Int.ofNat_dvd_left.2 (Nat.gcd_dvd_right _ _);have en := Int.mul_ediv_cancel' gn;have ed := Int.mul_ediv_cancel' gd;have ln : n / gI n d <= n := Int.ediv_le_self _ h0;have ld : d / gI n d <= d := Int.ediv_le_self _ (by omega)
 have hE : tmkE n d = 0 := by
  unfold tmkE;rw [if_neg (by omega), if_neg (by omega), if_neg (by omega)]
 have hc := zmN h0 h1 hE;have hT : tmkT n d = ⟨n / gI n d, d / gI n d⟩ := by unfold tmkT; rw [if_pos hE]
 refine ⟨hE, hc, ?_, ?_⟩
 ·have hcop := zmL hc;rw [hT] at hcop ⊢;show d / gI n d ∣ 48
  have hdv : d / gI n d ∣ 48 * (n / gI n d) := by
   obtain ⟨c, hc2⟩ := h48;refine ⟨c, ?_⟩;refine Int.eq_of_mul_eq_mul_left (a := gI n d) (by omega) ?_
   calc gI n d * (48 * (n / gI n d)) = 48 * (gI n d * (n / gI n d)) := by rw [← Int.mul_assoc, Int.mul_comm (gI n d) 48, Int.mul_assoc]
    _ = d * c := by rw [en]; exact hc2
    _ = gI n d * (d / gI n d * c) := by rw [← Int.mul_assoc, ed]
  have h2 : (d / gI n d).natAbs ∣ 48 * (n / gI n d).natAbs := by
   have := Int.natAbs_dvd_natAbs.2 hdv
   rwa [Int.natAbs_mul] at this
  have hco : Nat.Coprime (d / gI n d).natAbs (n / gI n d).natAbs := Nat.Coprime.symm hcop;have h3 := Nat.Coprime.dvd_of_dvd_mul_right hco h2;exact Int.natAbs_dvd.1 (Int.ofNat_dvd.2 h3)
 ·rw [hT];show n / gI n d <= B * (d / gI n d);refine Int.le_of_mul_le_mul_left (a := gI n d) ?_ hg;rw [en, ← Int.mul_assoc, Int.mul_comm (gI n d) B, Int.mul_assoc, ed]; exact hb
theorem zne {A B : Int} {a b : Tm} (ha : GT A a) (hb : GT B b) (h0 : 0 <= A) (h1 : 0 <= B) (hA : A <= 100000) (hB : B <= 100000) : addE a b = 0 /\ GT (A + B) (addV a b) := by
 have hf := zia ha.c hb.c;have na := (zS ha.c).1;have nb := (zS hb.c).1;have ba := ha.b;have bb := hb.b;unfold addE addV;rw [if_pos hf, if_pos hf];rcases ha.dc with e | e | e | e | e | e | e | e | e | e <;> rcases hb.dc with f | f | f | f | f | f | f | f | f | f <;> rw [e] at ba ⊢ <;> rw [f] at bb ⊢ <;> exact zqf (by omega) (by omega) (by omega) (by omega) (by omega) (by omega)
theorem zjX {A B : Int} {a b : Tm} (ha : GT A a) (hb : GT B b) (h0 : 0 <= A) (hA : A <= 100000) (h : ¬ subE a b = 2) : subE a b = 0 /\ GT A (subV a b) := by
 have hf := zia ha.c hb.c;have na := (zS ha.c).1;have nb := (zS hb.c).1;have ba := ha.b;unfold subE at h;unfold subE subV;rw [if_pos hf] at h ⊢;rw [if_pos hf];have hn : ¬ (a.N * b.D - b.N * a.D < 0) := fun hl => h (by unfold tmkE; rw [if_pos (.inl hl)])
 rcases ha.dc with e | e | e | e | e | e | e | e | e | e <;> rcases hb.dc with f | f | f | f | f | f | f | f | f | f <;> rw [e, f] at hn <;> rw [e] at ba ⊢ <;> rw [f] <;> exact zqf (by omega) (by omega) (by omega) (by omega) (by omega) (by omega)
end Go.Rse
namespace Go.Rse
open Go Go.Proofs
theorem zpa : GT 0 ⟨0, 1⟩ := ⟨by decide +kernel, by decide, by decide⟩
theorem znf : ∀ (l : List Tm) (s : Tm) (A : Int), 0 <= A -> A + 122 * (l.length : Int) <= 100000 -> GT A s -> (∀ t ∈ l, GT 122 t) →
 ∀ t ∈ smF s l, GT (A + 122 * (l.length : Int)) t
 | [], s, A, h0, hA, hs, _ => fun t ht => by simp [smF] at ht
 | d :: r, s, A, h0, hA, hs, hl => fun t ht => by
  simp only [List.length_cons, Int.natCast_add, Int.natCast_one] at hA ⊢;obtain ⟨e, hg⟩ := zne hs (hl d (by simp)) h0 (by decide) (by omega) (by decide);simp only [smF] at ht;rcases List.mem_cons.1 ht with rfl | ht
  ·exact hg.mono (by omega)
  ·exact (znf r (addV s d) (A + 122) (by omega) (by omega) hg (fun x hx => hl x (List.mem_cons_of_mem _ hx)) t ht).mono (by omega)
structure ItG (x : Ite) : Prop where
 p : itP x
 d : GT 122 x.Dur
 b : GT 2000 x.Before
 a : GT 2000 x.After
theorem zpb {l : List Ite} {s : Sgm} {x : Ite} (h : x ∈ itR l s) : x ∈ l := List.mem_of_mem_drop (List.mem_of_mem_take h)
theorem zrx (l : List Ite) (s : Sgm) : (itR l s).length <= l.length := by unfold itR; rw [List.length_take, List.length_drop]; omega
theorem zta {l : List Ite} {s : Sgm} (h : ∀ x ∈ l, ItG x) : ∀ t ∈ drL (itR l s), GT 122 t := fun t ht => by
 unfold drL at ht;obtain ⟨x, hx, rfl⟩ := List.mem_map.1 ht;exact (h x (zpb hx)).d
theorem zpc (l : List Ite) (s : Sgm) : (drL (itR l s)).length <= l.length := by unfold drL; rw [List.length_map]; exact zrx l s
theorem zkV {l : List Ite} {s : Sgm} (h : ∀ x ∈ l, ItG x) (hl : l.length <= 10) : ∀ t ∈ fsL (itR l s), GT 1220 t := fun t ht => by
 unfold fsL at ht;have hd := zpc l s;exact (znf _ _ 0 (by decide) (by omega) zpa (zta h) t ht).mono (by omega)
theorem zry {l : List Ite} {s : Sgm} (h : ∀ x ∈ l, ItG x) (hl : l.length <= 10) : ∀ t ∈ lasL (itR l s), GT 1220 t := fun t ht => by
 unfold lasL at ht;split at ht
 ·simp at ht
 ·rename_i a ha;have hm := List.mem_of_getLast? ha;rcases List.mem_cons.1 ht with rfl | ht
  ·exact zkV h hl _ hm
  ·obtain ⟨y, hy, rfl⟩ := List.mem_map.1 ht;rw [List.mem_filter] at hy;have hy2 : subE a y = 0 := by simpa using hy.2
   exact (zjX (zkV h hl _ hm) (zkV h hl _ (List.dropLast_subset _ hy.1)) (by decide) (by decide) (by rw [hy2]; decide)).2
theorem zqg {u b : Tm} {S : List Tm} (h : rcQ u S b = true) (hS : ∀ t ∈ S, GT 1220 t) : GT 2000 (addV b u) := by
 unfold rcQ at h;simp only [Bool.and_eq_true, decide_eq_true_eq] at h;exact (hS _ h.2).mono (by decide)
theorem ztb {m : Mn} {k : Int} (h : unE m k = 0) : ∃ f : Int, unT m k = ⟨f, 1⟩ /\ 1 <= f /\ f <= 27 := by
 obtain ⟨h1, h2, h3, h4⟩ := ze7 h;have hb := zaU zoE h1 (show 1 <= k + 1 by omega) (show k + 1 <= 8 by omega);unfold unT; rw [if_pos h];unfold fuQ at hb;rw [decide_eq_false (show ¬ k + 1 <= 1 by omega), decide_eq_false (show ¬ 5 < k + 1 by omega)] at hb;simp only [Bool.and_eq_true, decide_eq_true_eq, Bool.false_or] at hb;have h2 := hb.2;unfold unL at h2;simp only [List.mem_cons, List.mem_nil_iff, or_false] at h2;rcases h2 with e | e | e | e | e | e | e | e | e | e <;> rw [e] <;> exact ⟨_, rfl, by decide, by decide⟩
theorem zin {f : Int} (h1 : 1 <= f) (h2 : f <= 27) : GT 27 ⟨f, 1⟩ := by
 obtain ⟨n, rfl⟩ := Int.eq_ofNat_of_zero_le (show 0 <= f by omega);refine ⟨?_, ⟨48, by simp⟩, by simp only; omega⟩;have : ∀ n : Fin 28, 1 <= n.val -> ckT ⟨(n.val : Int), 1⟩ = 0 := by decide +kernel
 exact this ⟨n, by omega⟩ (by simp only; omega)
theorem ztc {u : Tm} {x : Ite} {f : Int} {S : List Tm} (hu : u = ⟨f, 1⟩) (h1 : 1 <= f) (h27 : f <= 27) (hx : ItG x) (hl : lgQ u x = true) (hr : rcQ u S x.After = true) (hS : ∀ t ∈ S, GT 1220 t) : ItG (zJ u x) := by
 have gu : GT 27 u := by rw [hu]; exact zin h1 h27
 have hp := zsM hu gu.c hx.p hl hr
 have hs : ¬ subE x.Dur u = 2 := by
  have hl2 := hl;unfold lgQ at hl2;rw [decide_eq_true_iff] at hl2;have h0 := hu;subst h0;rw [(zf3 (zdO hx.p.1).2.1 gu.c hl2).1]; decide
 exact ⟨hp, (zjX hx.d gu (by decide) (by decide) hs).2, hx.b, zqg hr hS⟩
theorem ztd {u : Tm} {x : Ite} {f : Int} {S : List Tm} (hu : u = ⟨f, 1⟩) (h1 : 1 <= f) (h27 : f <= 27) (hx : ItG x) (hl : lgQ u x = true) (hr : rcQ u S x.Before = true) (hS : ∀ t ∈ S, GT 1220 t) : ItG (zad u x) := by
 have gu : GT 27 u := by rw [hu]; exact zin h1 h27
 have hp := zsN hu gu.c hx.p hl hr
 have hs : ¬ subE x.Dur u = 2 := by
  have hl2 := hl;unfold lgQ at hl2;rw [decide_eq_true_iff] at hl2;have h0 := hu;subst h0;rw [(zf3 (zdO hx.p.1).2.1 gu.c hl2).1]; decide
 exact ⟨hp, (zjX hx.d gu (by decide) (by decide) hs).2, zqg hr hS, hx.a⟩
theorem zte {u : Tm} {x : Ite} {f : Int} (hu : u = ⟨f, 1⟩) (h1 : 1 <= f) (h27 : f <= 27) (ha : addE u u = 0) (hn : 1 <= (addV u u).N) (hx : ItG x) (hd : x.Dur = u) : ItG (dblI x) := by
 have gu : GT 27 u := by rw [hu]; exact zin h1 h27
 refine ⟨zsO ha hn hx.p hd, ?_, hx.b, hx.a⟩;show GT 122 (addV x.Dur x.Dur);rw [hd];exact (zne gu gu (by decide) (by decide) (by decide) (by decide)).2.mono (by decide)
theorem ztf {u : Tm} {k : Int} {l0 l : List Ite} {L : List (Int × Bool)} {s : Sgm} {c f : Int} (hu : u = ⟨f, 1⟩) (f1 : 1 <= f) (f27 : f <= 27) (ha : addE u u = 0) (hn : 1 <= (addV u u).N) (hs : SgOk k l0 s) (hl : l.length = l0.length) (h10 : l.length <= 10)
 (h : c ∈ alQ u k l L s) (hP : ∀ x ∈ l, ItG x) : ∀ x ∈ chN u s c l, ItG x := by
 have hc := zf7 hs.ft h;unfold alQ at h;have hlf : (c = 1 \/ c = 3) -> s.Left < l.length /\ 0 <= s.Left /\ s.Left < s.From := fun h => by have := hs.tl; have := hs.ft; have := hc.lf h; rcases hs.lf with h2 | h2 <;> omega
 have hrt : (c = 2 \/ c = 3) -> s.Right < l.length /\ 0 <= s.Right /\ s.Right = s.To := fun h => by have := hs.tl; have := hs.ft; have := hc.rt h; rcases hs.rt with h2 | h2 <;> omega
 have hpo : (c = 1 \/ c = 3) -> poQ u k l L s = true := fun hh => by
  rcases zcm h with ⟨h1, _⟩ | ⟨h1, h2, _⟩ | ⟨h1, h2, _⟩ | ⟨h1, h2, h3, _⟩ | ⟨h1, h2, _⟩
  ·omega
  ·exact h2
  ·omega
  ·exact h2
  ·omega
 have han : (c = 2 \/ c = 3) -> anQ u k l s = true := fun hh => by
  rcases zcm h with ⟨h1, _⟩ | ⟨h1, h2, _⟩ | ⟨h1, h2, _⟩ | ⟨h1, h2, h3, _⟩ | ⟨h1, h2, _⟩
  ·omega
  ·omega
  ·exact h2
  ·exact h3
  ·omega
 have hat : c = 4 -> atQ u k l s = true := fun hh => by
  rcases zcm h with ⟨h1, _⟩ | ⟨h1, h2, _⟩ | ⟨h1, h2, _⟩ | ⟨h1, h2, h3, _⟩ | ⟨h1, h2, _⟩
  ·omega
  ·omega
  ·omega
  ·omega
  ·exact h2
 have hS1 := zkV (s := s) hP h10;have hS2 := zry (s := s) hP h10;unfold chN;simp only;by_cases h4 : c = 4
 ·have n1 : ¬ (c = 1 \/ c = 3) := by omega
  have n2 : ¬ (c = 2 \/ c = 3) := by omega
  rw [if_neg n2, if_neg n1, if_pos h4];obtain ⟨a1, a2⟩ := zp4 (hat h4)
  have hd : (itg l (s.To - 1)).Dur = u := by
   unfold ntQ at a2;simp only [Bool.and_eq_true, decide_eq_true_eq] at a2;exact a2.2
  have := hs.ft; have := hs.tl; have := hs.f0;exact zmG (by omega) (by omega) hP (zte hu f1 f27 ha hn (hP _ (zh9 (by omega) (by omega))) hd)
 ·rw [if_neg h4]
  have hA : (∀ x ∈ (if c = 1 \/ c = 3 then upI l s.Left (zJ u) else l), ItG x) /\ (if c = 1 \/ c = 3 then upI l s.Left (zJ u) else l).length = l.length ∧
   ((c = 2 \/ c = 3) -> itg (if c = 1 \/ c = 3 then upI l s.Left (zJ u) else l) s.Right = itg l s.Right) := by
   split
   ·rename_i hh;obtain ⟨b1, b2, b3⟩ := hlf hh;obtain ⟨c1, c2, c3⟩ := zmQ (hpo hh);refine ⟨zmG b2 b1 hP (ztc hu f1 f27 (hP _ (zh9 b2 b1)) c2 c3 hS1), zck _ _ _, fun h2 => ?_⟩;obtain ⟨d1, d2, d3⟩ := hrt h2;have := hs.ft;rw [zag b2 d2 b1, if_neg (by omega)]
   ·exact ⟨hP, rfl, fun _ => rfl⟩
  generalize (if c = 1 \/ c = 3 then upI l s.Left (zJ u) else l) = l1 at *
  obtain ⟨hA1, hA2, hA3⟩ := hA;split
  ·rename_i hh;obtain ⟨b1, b2, b3⟩ := hrt hh;obtain ⟨c1, c2, c3⟩ := zmR (han hh);rw [← hA3 hh] at c2 c3;exact zmG b2 (by omega) hA1 (ztd hu f1 f27 (hA1 _ (zh9 b2 (by omega))) c2 c3 hS2)
  ·exact hA1
theorem zqh {u : Tm} {k : Int} {S : List Sgm} {l : List Ite} {M : List Int} {f : Int} (hu : u = ⟨f, 1⟩) (f1 : 1 <= f) (f27 : f <= 27) (ha : addE u u = 0) (hn : 1 <= (addV u u).N) (h10 : l.length <= 10) (hS : SgsOk k l S) (hP : ∀ x ∈ l, ItG x) :
 ∀ n, n <= S.length -> okJ u k S l M n = true -> ∀ x ∈ (stK u S l M n).1, ItG x
 | 0, _, _ => hP
 | n + 1, hnn, hk => by
  have hk : (okJ u k S l M n && decide (M.getD n 0 ∈ alK u k S l M n)) = true := hk;simp only [Bool.and_eq_true, decide_eq_true_eq] at hk;have i1 := zqh hu f1 f27 ha hn h10 hS hP n (by omega) hk.1;have hst := zf9 hS n (by omega) hk.1;rw [zhn];have hs : S[n]? = some S[n] := lgg (by omega);have hd : S.getD n default = S[n] := by rw [List.getD_eq_getElem?_getD, hs]; rfl
  have hso := hS.all _ (List.mem_of_getElem? hs);unfold alK at hk;rw [hd] at hk ⊢;generalize S[n] = s at *
  exact ztf hu f1 f27 ha hn hso hst.len (by rw [hst.len]; exact h10) hk.2 i1
theorem ztg {m : Mn} {k : Int} {l : List Ite} {M : List Int} (h : apE m k l M = 0) (h10 : l.length <= 10) (hP : ∀ x ∈ l, ItG x) : ∀ x ∈ apV m k l M, ItG x := by
 obtain ⟨h1, h2, h3⟩ := zkE h;obtain ⟨f, u1, u2, u27⟩ := ztb (ze8 h1).1;obtain ⟨-, u3, u4, u5⟩ := zsL (ze8 h1).1;have hS := zcl h1;have i1 := zqh u1 u2 u27 u4 u5 h10 hS hP M.length (by omega) h3;unfold apV; rw [if_pos h];exact i1
end Go.Rse
namespace Go.Rse
open Go Go.Proofs
def gtQ (t : Tm) : Bool := decide (ckT t = 0) && decide (48 % t.D = 0) && decide (t.N <= 122 * t.D)
theorem zcW {t : Tm} (h : gtQ t = true) : GT 122 t := by
 unfold gtQ at h;simp only [Bool.and_eq_true, decide_eq_true_eq] at h;exact ⟨h.1.1, Int.dvd_of_emod_eq_zero h.1.2, h.2⟩
def gtM (m : Mn) (v : Int) : Bool := gtQ (fullT m v) && gtQ (durT m v) && gtQ (mulV (fullT m v) ⟨3, 2⟩) && gtQ (mulV (durT m v) ⟨3, 2⟩)
theorem zpd : zd6 gtM = true := by kernel_rfl
theorem zrz {m : Mn} {s : Sg} {z : Tm} (hm : ckM m = 0) (h1 : 1 <= s.Value) (h8 : s.Value <= 8) (hz : z = bsT m s \/ z = ⟨3, 2⟩ \/ z = ⟨1, 2⟩) : GT 122 z /\ GT 122 (mulV z ⟨3, 2⟩) := by
 have h := zaU zpd hm h1 h8;unfold gtM at h;simp only [Bool.and_eq_true] at h;rcases hz with rfl | rfl | rfl
 ·unfold bsT; split
  ·exact ⟨zcW h.1.1.2, zcW h.2⟩
  ·exact ⟨zcW h.1.1.1, zcW h.1.2⟩
 ·exact ⟨zcW (by decide +kernel), zcW (by decide +kernel)⟩
 ·exact ⟨zcW (by decide +kernel), zcW (by decide +kernel)⟩
theorem zth {m : Mn} {l : List Sg} {ch mi : List Int} (h1 : mkE m l ch = 0) {k : Nat} {s : Sg} (hs : l[k]? = some s) (h3 : ¬ s.Kind = 3) : ItG (iTM m l ch mi k s) := by
 have hP := zsA (mi := mi) h1 hs h3;obtain ⟨hM, v1, v8⟩ := zO (zbR h1) hs h3
 have hz : ∀ z, z = (mget (k : Int) (duM m l mi)).getD (bsT m s) -> z = bsT m s \/ z = ⟨3, 2⟩ \/ z = ⟨1, 2⟩ := by
  intro z hz;cases hq : mget (k : Int) (duM m l mi) with
  | none => rw [hq] at hz; exact .inl hz
  | some x => rw [hq] at hz; exact .inr (by rw [show z = x from hz]; exact zaV _ _ _ _ _ hq)
 have hz := hz _ rfl;unfold iTM at hP ⊢;generalize (mget (k : Int) (duM m l mi)).getD (bsT m s) = z at *
 generalize (zx ch l l.length k).1 = c at *
 generalize (zx ch l l.length k).2 = a at *
 have hg := zrz hM v1 v8 hz;have e01 : GT 2000 ⟨0, 1⟩ := zpa.mono (by decide);refine ⟨hP, ?_, e01, e01⟩;show GT 122 (if a = true then mulV z ⟨3, 2⟩ else z);split
 ·exact hg.2
 ·exact hg.1
theorem zti {m : Mn} {l : List Sg} {ch mi : List Int} (h1 : mkE m l ch = 0) (h2 : duE m l mi = 0) (hD : zhX l) : ∀ x ∈ itmV m l ch mi, ItG x := by
 intro x hx;obtain ⟨i, hi⟩ := List.mem_iff_getElem?.1 hx;have hi2 := hi;rw [zh4 (by unfold itmE; rw [if_pos h1, h2])] at hi;obtain ⟨k, s, hk, hs, h3, hn, hx2⟩ := zgd l.length hi;have hg := zmk h1 h2 hD hs h3;rw [hn, hi2] at hg;injection hg with hg;rw [hg];exact zth h1 hs h3
section
variable {m : Mn} {l : List Sg}
end
end Go.Rse
