/-
  Plain: sums of few durations stay small: no reading of a short run is too long.
-/
import Derived.Test.YtbilklnipfabpaaGreatDoorPJRl0
import Derived.Test.YtbilklnipfabpaaGreatDoorPJLaw18a
set_option linter.unusedSimpArgs false
set_option linter.unusedVariables false
namespace Go.Rse
open Go Go.Proofs
structure GT (B : Int) (t : Tm) : Prop where
 c : ckT t = 0
 d : t.D ∣ 48
 b : t.N <= B * t.D
theorem zoc : ∀ k : Fin 49, (k.val ∣ 48) -> k.val = 1 \/ k.val = 2 \/ k.val = 3 \/ k.val = 4 \/ k.val = 6 \/ k.val = 8 \/ k.val = 12 \/ k.val = 16 \/ k.val = 24 \/ k.val = 48 := by decide
theorem d48 {d : Int} (h1 : 1 <= d) (h : d ∣ 48) : d = 1 \/ d = 2 \/ d = 3 \/ d = 4 \/ d = 6 \/ d = 8 \/ d = 12 \/ d = 16 \/ d = 24 \/ d = 48 := by
 have h48 := Int.le_of_dvd (by decide) h;obtain ⟨k, rfl⟩ := Int.eq_ofNat_of_zero_le (show 0 <= d by omega);have hk : k ∣ 48 := by exact_mod_cast h
 have := zoc ⟨k, by omega⟩ hk;simp only at this;omega
theorem GT.dc {B : Int} {t : Tm} (h : GT B t) : t.D = 1 \/ t.D = 2 \/ t.D = 3 \/ t.D = 4 \/ t.D = 6 \/ t.D = 8 \/ t.D = 12 \/ t.D = 16 \/ t.D = 24 \/ t.D = 48 := d48 (zB h.c).2.2.2.2.1 h.d
theorem GT.mono {A B : Int} {t : Tm} (h : GT A t) (hAB : A <= B) : GT B t := ⟨h.c, h.d, by
 have h1 := (zB h.c).2.2.1;exact Int.le_trans h.b (Int.mul_le_mul_of_nonneg_right hAB h1)⟩
theorem zpC {n d B : Int} (h0 : 0 <= n) (h1 : 1 <= d) (hn : n <= 1099511627776) (hd : d <= 1048576) (hb : n <= B * d) (h48 : d ∣ 48 * n) : tmkE n d = 0 /\ GT B (tmkT n d) := by
 have hg := zeJ (n := n) (d := d) (by omega);have gn : gI n d ∣ n := Int.ofNat_dvd_left.2 (Nat.gcd_dvd_left _ _);have gd : gI n d ∣ d := Int.ofNat_dvd_left.2 (Nat.gcd_dvd_right _ _);have en := Int.mul_ediv_cancel' gn;have ed := Int.mul_ediv_cancel' gd;have ln : n / gI n d <= n := Int.ediv_le_self _ h0;have ld : d / gI n d <= d := Int.ediv_le_self _ (by omega)
 have hE : tmkE n d = 0 := by
  unfold tmkE;rw [if_neg (by omega), if_neg (by omega), if_neg (by omega)]
 have hc := zmy h0 h1 hE;have hT : tmkT n d = ⟨n / gI n d, d / gI n d⟩ := by unfold tmkT; rw [if_pos hE]
 refine ⟨hE, hc, ?_, ?_⟩
 ·have hcop := zhU hc;rw [hT] at hcop ⊢;show d / gI n d ∣ 48
  have hdv : d / gI n d ∣ 48 * (n / gI n d) := by
   obtain ⟨c, hc2⟩ := h48;refine ⟨c, ?_⟩;refine Int.eq_of_mul_eq_mul_left (a := gI n d) (by omega) ?_
   calc gI n d * (48 * (n / gI n d)) = 48 * (gI n d * (n / gI n d)) := by rw [← Int.mul_assoc, Int.mul_comm (gI n d) 48, Int.mul_assoc]
    _ = d * c := by rw [en]; exact hc2
    _ = gI n d * (d / gI n d * c) := by rw [← Int.mul_assoc, ed]
  have h2 : (d / gI n d).natAbs ∣ 48 * (n / gI n d).natAbs := by
   have := Int.natAbs_dvd_natAbs.2 hdv
   rwa [Int.natAbs_mul] at this
  have hco : Nat.Coprime (d / gI n d).natAbs (n / gI n d).natAbs := Nat.Coprime.symm hcop;have h3 := Nat.Coprime.dvd_of_dvd_mul_right hco h2;exact Int.natAbs_dvd.1 (Int.ofNat_dvd.2 h3)
 ·rw [hT];show n / gI n d <= B * (d / gI n d);refine Int.le_of_mul_le_mul_left (a := gI n d) ?_ hg;rw [en, ← Int.mul_assoc, Int.mul_comm (gI n d) B, Int.mul_assoc, ed]; exact hb
theorem zjC {A B : Int} {a b : Tm} (ha : GT A a) (hb : GT B b) (h0 : 0 <= A) (h1 : 0 <= B) (hA : A <= 100000) (hB : B <= 100000) : addE a b = 0 /\ GT (A + B) (addV a b) := by
 have hf := zhV ha.c hb.c;have na := (zB ha.c).1;have nb := (zB hb.c).1;have ba := ha.b;have bb := hb.b;unfold addE addV;rw [if_pos hf, if_pos hf];rcases ha.dc with e | e | e | e | e | e | e | e | e | e <;> rcases hb.dc with f | f | f | f | f | f | f | f | f | f <;> rw [e] at ba ⊢ <;> rw [f] at bb ⊢ <;> exact zpC (by omega) (by omega) (by omega) (by omega) (by omega) (by omega)
theorem zjD {A B : Int} {a b : Tm} (ha : GT A a) (hb : GT B b) (h0 : 0 <= A) (hA : A <= 100000) (h : ¬ subE a b = 2) : subE a b = 0 /\ GT A (subV a b) := by
 have hf := zhV ha.c hb.c;have na := (zB ha.c).1;have nb := (zB hb.c).1;have ba := ha.b;unfold subE at h;unfold subE subV;rw [if_pos hf] at h ⊢;rw [if_pos hf];have hn : ¬ (a.N * b.D - b.N * a.D < 0) := fun hl => h (by unfold tmkE; rw [if_pos (.inl hl)])
 rcases ha.dc with e | e | e | e | e | e | e | e | e | e <;> rcases hb.dc with f | f | f | f | f | f | f | f | f | f <;> rw [e, f] at hn <;> rw [e] at ba ⊢ <;> rw [f] <;> exact zpC (by omega) (by omega) (by omega) (by omega) (by omega) (by omega)
end Go.Rse
namespace Go.Rse
open Go Go.Proofs
theorem zkn : GT 0 ⟨0, 1⟩ := ⟨by decide +kernel, by decide, by decide⟩
theorem zmn : ∀ (l : List Tm) (s : Tm) (A : Int), 0 <= A -> A + 122 * (l.length : Int) <= 100000 -> GT A s -> (∀ t ∈ l, GT 122 t) →
 (sumF s l).2 = 0 /\ GT (A + 122 * (l.length : Int)) (sumF s l).1
 | [], s, A, h0, hA, hs, _ => by simpa [sumF] using hs
 | t :: r, s, A, h0, hA, hs, hl => by
  simp only [List.length_cons, Int.natCast_add, Int.natCast_one] at hA;obtain ⟨e, hg⟩ := zjC hs (hl t (by simp)) h0 (by decide) (by omega) (by decide);simp only [sumF];rw [if_pos e];obtain ⟨i1, i2⟩ := zmn r (addV s t) (A + 122) (by omega) (by omega) hg fun x hx => hl x (List.mem_cons_of_mem _ hx)
  refine ⟨i1, i2.mono ?_⟩;simp only [List.length_cons, Int.natCast_add, Int.natCast_one]; omega
theorem zmo : ∀ (l : List Tm) (s : Tm) (A : Int), 0 <= A -> A + 122 * (l.length : Int) <= 100000 -> GT A s -> (∀ t ∈ l, GT 122 t) →
 ∀ t ∈ smF s l, GT (A + 122 * (l.length : Int)) t
 | [], s, A, h0, hA, hs, _ => fun t ht => by simp [smF] at ht
 | d :: r, s, A, h0, hA, hs, hl => fun t ht => by
  simp only [List.length_cons, Int.natCast_add, Int.natCast_one] at hA ⊢;obtain ⟨e, hg⟩ := zjC hs (hl d (by simp)) h0 (by decide) (by omega) (by decide);simp only [smF] at ht;rcases List.mem_cons.1 ht with rfl | ht
  ·exact hg.mono (by omega)
  ·exact (zmo r (addV s d) (A + 122) (by omega) (by omega) hg (fun x hx => hl x (List.mem_cons_of_mem _ hx)) t ht).mono (by omega)
structure ItG (x : Ite) : Prop where
 p : itP x
 d : GT 122 x.Dur
 b : GT 2000 x.Before
 a : GT 2000 x.After
theorem zod {l : List Ite} {s : Sgm} {x : Ite} (h : x ∈ itR l s) : x ∈ l := List.mem_of_mem_drop (List.mem_of_mem_take h)
theorem zqM (l : List Ite) (s : Sgm) : (itR l s).length <= l.length := by unfold itR; rw [List.length_take, List.length_drop]; omega
theorem zso {l : List Ite} {s : Sgm} (h : ∀ x ∈ l, ItG x) : ∀ t ∈ drL (itR l s), GT 122 t := fun t ht => by
 unfold drL at ht;obtain ⟨x, hx, rfl⟩ := List.mem_map.1 ht;exact (h x (zod hx)).d
theorem zoe (l : List Ite) (s : Sgm) : (drL (itR l s)).length <= l.length := by unfold drL; rw [List.length_map]; exact zqM l s
theorem zko {l : List Ite} {s : Sgm} (h : ∀ x ∈ l, ItG x) (hl : l.length <= 10) : ∀ t ∈ fsL (itR l s), GT 1220 t := fun t ht => by
 unfold fsL at ht;have hd := zoe l s;exact (zmo _ _ 0 (by decide) (by omega) zkn (zso h) t ht).mono (by omega)
theorem zqN {l : List Ite} {s : Sgm} (h : ∀ x ∈ l, ItG x) (hl : l.length <= 10) : ∀ t ∈ lasL (itR l s), GT 1220 t := fun t ht => by
 unfold lasL at ht;split at ht
 ·simp at ht
 ·rename_i a ha;have hm := List.mem_of_getLast? ha;rcases List.mem_cons.1 ht with rfl | ht
  ·exact zko h hl _ hm
  ·obtain ⟨y, hy, rfl⟩ := List.mem_map.1 ht;rw [List.mem_filter] at hy;have hy2 : subE a y = 0 := by simpa using hy.2
   exact (zjD (zko h hl _ hm) (zko h hl _ (List.dropLast_subset _ hy.1)) (by decide) (by decide) (by rw [hy2]; decide)).2
theorem zpD {u b : Tm} {S : List Tm} (h : rcQ u S b = true) (hS : ∀ t ∈ S, GT 1220 t) : GT 2000 (addV b u) := by
 unfold rcQ at h;simp only [Bool.and_eq_true, decide_eq_true_eq] at h;exact (hS _ h.2).mono (by decide)
theorem zsp {m : Mn} {k : Int} (h : unE m k = 0) : ∃ f : Int, unT m k = ⟨f, 1⟩ /\ 1 <= f /\ f <= 27 := by
 obtain ⟨h1, h2, h3, h4⟩ := ze0 h;have hb := zbh zoj h1 (show 1 <= k + 1 by omega) (show k + 1 <= 8 by omega);unfold unT; rw [if_pos h];unfold fuQ at hb;rw [decide_eq_false (show ¬ k + 1 <= 1 by omega), decide_eq_false (show ¬ 5 < k + 1 by omega)] at hb;simp only [Bool.and_eq_true, decide_eq_true_eq, Bool.false_or] at hb;have h2 := hb.2;unfold unL at h2;simp only [List.mem_cons, List.mem_nil_iff, or_false] at h2;rcases h2 with e | e | e | e | e | e | e | e | e | e <;> rw [e] <;> exact ⟨_, rfl, by decide, by decide⟩
theorem zhR {f : Int} (h1 : 1 <= f) (h2 : f <= 27) : GT 27 ⟨f, 1⟩ := by
 obtain ⟨n, rfl⟩ := Int.eq_ofNat_of_zero_le (show 0 <= f by omega);refine ⟨?_, ⟨48, by simp⟩, by simp only; omega⟩;have : ∀ n : Fin 28, 1 <= n.val -> ckT ⟨(n.val : Int), 1⟩ = 0 := by decide +kernel
 exact this ⟨n, by omega⟩ (by simp only; omega)
theorem zsq {u : Tm} {x : Ite} {f : Int} {S : List Tm} (hu : u = ⟨f, 1⟩) (h1 : 1 <= f) (h27 : f <= 27) (hx : ItG x) (hl : lgQ u x = true) (hr : rcQ u S x.After = true) (hS : ∀ t ∈ S, GT 1220 t) : ItG (zG u x) := by
 have gu : GT 27 u := by rw [hu]; exact zhR h1 h27
 have hp := zsA hu gu.c hx.p hl hr
 have hs : ¬ subE x.Dur u = 2 := by
  have hl2 := hl;unfold lgQ at hl2;rw [decide_eq_true_iff] at hl2;have h0 := hu;subst h0;rw [(zf7 (zdD hx.p.1).2.1 gu.c hl2).1]; decide
 exact ⟨hp, (zjD hx.d gu (by decide) (by decide) hs).2, hx.b, zpD hr hS⟩
theorem zsr {u : Tm} {x : Ite} {f : Int} {S : List Tm} (hu : u = ⟨f, 1⟩) (h1 : 1 <= f) (h27 : f <= 27) (hx : ItG x) (hl : lgQ u x = true) (hr : rcQ u S x.Before = true) (hS : ∀ t ∈ S, GT 1220 t) : ItG (zaa u x) := by
 have gu : GT 27 u := by rw [hu]; exact zhR h1 h27
 have hp := zsB hu gu.c hx.p hl hr
 have hs : ¬ subE x.Dur u = 2 := by
  have hl2 := hl;unfold lgQ at hl2;rw [decide_eq_true_iff] at hl2;have h0 := hu;subst h0;rw [(zf7 (zdD hx.p.1).2.1 gu.c hl2).1]; decide
 exact ⟨hp, (zjD hx.d gu (by decide) (by decide) hs).2, zpD hr hS, hx.a⟩
theorem zss {u : Tm} {x : Ite} {f : Int} (hu : u = ⟨f, 1⟩) (h1 : 1 <= f) (h27 : f <= 27) (ha : addE u u = 0) (hn : 1 <= (addV u u).N) (hx : ItG x) (hd : x.Dur = u) : ItG (dblI x) := by
 have gu : GT 27 u := by rw [hu]; exact zhR h1 h27
 refine ⟨zsC ha hn hx.p hd, ?_, hx.b, hx.a⟩;show GT 122 (addV x.Dur x.Dur);rw [hd];exact (zjC gu gu (by decide) (by decide) (by decide) (by decide)).2.mono (by decide)
theorem zst {u : Tm} {k : Int} {l0 l : List Ite} {L : List (Int × Bool)} {s : Sgm} {c f : Int} (hu : u = ⟨f, 1⟩) (f1 : 1 <= f) (f27 : f <= 27) (ha : addE u u = 0) (hn : 1 <= (addV u u).N) (hs : SgOk k l0 s) (hl : l.length = l0.length) (h10 : l.length <= 10)
 (h : c ∈ alQ u k l L s) (hP : ∀ x ∈ l, ItG x) : ∀ x ∈ chN u s c l, ItG x := by
 have hc := zhW hs.ft h;unfold alQ at h;have hlf : (c = 1 \/ c = 3) -> s.Left < l.length /\ 0 <= s.Left /\ s.Left < s.From := fun h => by have := hs.tl; have := hs.ft; have := hc.lf h; rcases hs.lf with h2 | h2 <;> omega
 have hrt : (c = 2 \/ c = 3) -> s.Right < l.length /\ 0 <= s.Right /\ s.Right = s.To := fun h => by have := hs.tl; have := hs.ft; have := hc.rt h; rcases hs.rt with h2 | h2 <;> omega
 have hpo : (c = 1 \/ c = 3) -> poQ u k l L s = true := fun hh => by
  rcases zfw h with ⟨h1, _⟩ | ⟨h1, h2, _⟩ | ⟨h1, h2, _⟩ | ⟨h1, h2, h3, _⟩ | ⟨h1, h2, _⟩
  ·omega
  ·exact h2
  ·omega
  ·exact h2
  ·omega
 have han : (c = 2 \/ c = 3) -> anQ u k l s = true := fun hh => by
  rcases zfw h with ⟨h1, _⟩ | ⟨h1, h2, _⟩ | ⟨h1, h2, _⟩ | ⟨h1, h2, h3, _⟩ | ⟨h1, h2, _⟩
  ·omega
  ·omega
  ·exact h2
  ·exact h3
  ·omega
 have hat : c = 4 -> atQ u k l s = true := fun hh => by
  rcases zfw h with ⟨h1, _⟩ | ⟨h1, h2, _⟩ | ⟨h1, h2, _⟩ | ⟨h1, h2, h3, _⟩ | ⟨h1, h2, _⟩
  ·omega
  ·omega
  ·omega
  ·omega
  ·exact h2
 have hS1 := zko (s := s) hP h10;have hS2 := zqN (s := s) hP h10;unfold chN;simp only;by_cases h4 : c = 4
 ·have n1 : ¬ (c = 1 \/ c = 3) := by omega
  have n2 : ¬ (c = 2 \/ c = 3) := by omega
  rw [if_neg n2, if_neg n1, if_pos h4];obtain ⟨a1, a2⟩ := zpH (hat h4)
  have hd : (itg l (s.To - 1)).Dur = u := by
   unfold ntQ at a2;simp only [Bool.and_eq_true, decide_eq_true_eq] at a2;exact a2.2
  have := hs.ft; have := hs.tl; have := hs.f0;exact zmt (by omega) (by omega) hP (zss hu f1 f27 ha hn (hP _ (zhT (by omega) (by omega))) hd)
 ·rw [if_neg h4]
  have hA : (∀ x ∈ (if c = 1 \/ c = 3 then upI l s.Left (zG u) else l), ItG x) /\ (if c = 1 \/ c = 3 then upI l s.Left (zG u) else l).length = l.length ∧
   ((c = 2 \/ c = 3) -> itg (if c = 1 \/ c = 3 then upI l s.Left (zG u) else l) s.Right = itg l s.Right) := by
   split
   ·rename_i hh;obtain ⟨b1, b2, b3⟩ := hlf hh;obtain ⟨c1, c2, c3⟩ := zmB (hpo hh);refine ⟨zmt b2 b1 hP (zsq hu f1 f27 (hP _ (zhT b2 b1)) c2 c3 hS1), zdg _ _ _, fun h2 => ?_⟩;obtain ⟨d1, d2, d3⟩ := hrt h2;have := hs.ft;rw [zcc b2 d2 b1, if_neg (by omega)]
   ·exact ⟨hP, rfl, fun _ => rfl⟩
  generalize (if c = 1 \/ c = 3 then upI l s.Left (zG u) else l) = l1 at *
  obtain ⟨hA1, hA2, hA3⟩ := hA;split
  ·rename_i hh;obtain ⟨b1, b2, b3⟩ := hrt hh;obtain ⟨c1, c2, c3⟩ := zmC (han hh);rw [← hA3 hh] at c2 c3;exact zmt b2 (by omega) hA1 (zsr hu f1 f27 (hA1 _ (zhT b2 (by omega))) c2 c3 hS2)
  ·exact hA1
theorem zpE {u : Tm} {k : Int} {S : List Sgm} {l : List Ite} {M : List Int} {f : Int} (hu : u = ⟨f, 1⟩) (f1 : 1 <= f) (f27 : f <= 27) (ha : addE u u = 0) (hn : 1 <= (addV u u).N) (h10 : l.length <= 10) (hS : SgsOk k l S) (hP : ∀ x ∈ l, ItG x) :
 ∀ n, n <= S.length -> okJ u k S l M n = true -> ∀ x ∈ (stK u S l M n).1, ItG x
 | 0, _, _ => hP
 | n + 1, hnn, hk => by
  have hk : (okJ u k S l M n && decide (M.getD n 0 ∈ alK u k S l M n)) = true := hk;simp only [Bool.and_eq_true, decide_eq_true_eq] at hk;have i1 := zpE hu f1 f27 ha hn h10 hS hP n (by omega) hk.1;have hst := zjJ hS n (by omega) hk.1;rw [ziN];have hs : S[n]? = some S[n] := lgg (by omega);have hd : S.getD n default = S[n] := by rw [List.getD_eq_getElem?_getD, hs]; rfl
  have hso := hS.all _ (List.mem_of_getElem? hs);unfold alK at hk;rw [hd] at hk ⊢;generalize S[n] = s at *
  exact zst hu f1 f27 ha hn hso hst.len (by rw [hst.len]; exact h10) hk.2 i1
theorem zsu {m : Mn} {k : Int} {l : List Ite} {M : List Int} (h : apE m k l M = 0) (h10 : l.length <= 10) (hP : ∀ x ∈ l, ItG x) : ∀ x ∈ apV m k l M, ItG x := by
 obtain ⟨h1, h2, h3⟩ := zmu h;obtain ⟨f, u1, u2, u27⟩ := zsp (ze1 h1).1;obtain ⟨-, u3, u4, u5⟩ := zsz (ze1 h1).1;have hS := zcI h1;have i1 := zpE u1 u2 u27 u4 u5 h10 hS hP M.length (by omega) h3;unfold apV; rw [if_pos h];exact i1
end Go.Rse
namespace Go.Rse
open Go Go.Proofs
def gtQ (t : Tm) : Bool := decide (ckT t = 0) && decide (48 % t.D = 0) && decide (t.N <= 122 * t.D)
theorem zcG {t : Tm} (h : gtQ t = true) : GT 122 t := by
 unfold gtQ at h;simp only [Bool.and_eq_true, decide_eq_true_eq] at h;exact ⟨h.1.1, Int.dvd_of_emod_eq_zero h.1.2, h.2⟩
def gtM (m : Mn) (v : Int) : Bool := gtQ (fullT m v) && gtQ (durT m v) && gtQ (mulV (fullT m v) ⟨3, 2⟩) && gtQ (mulV (durT m v) ⟨3, 2⟩)
theorem zof : zeY gtM = true := by kernel_rfl
theorem zqO {m : Mn} {s : Sg} {z : Tm} (hm : ckM m = 0) (h1 : 1 <= s.Value) (h8 : s.Value <= 8) (hz : z = bsT m s \/ z = ⟨3, 2⟩ \/ z = ⟨1, 2⟩) : GT 122 z /\ GT 122 (mulV z ⟨3, 2⟩) := by
 have h := zbh zof hm h1 h8;unfold gtM at h;simp only [Bool.and_eq_true] at h;rcases hz with rfl | rfl | rfl
 ·unfold bsT; split
  ·exact ⟨zcG h.1.1.2, zcG h.2⟩
  ·exact ⟨zcG h.1.1.1, zcG h.1.2⟩
 ·exact ⟨zcG (by decide +kernel), zcG (by decide +kernel)⟩
 ·exact ⟨zcG (by decide +kernel), zcG (by decide +kernel)⟩
theorem zsv {m : Mn} {l : List Sg} {ch mi : List Int} (h1 : mkE m l ch = 0) {k : Nat} {s : Sg} (hs : l[k]? = some s) (h3 : ¬ s.Kind = 3) : ItG (iTM m l ch mi k s) := by
 have hP := zsV (mi := mi) h1 hs h3;obtain ⟨hM, v1, v8⟩ := zbm (zf2 h1) hs h3
 have hz : ∀ z, z = (mget (k : Int) (duM m l mi)).getD (bsT m s) -> z = bsT m s \/ z = ⟨3, 2⟩ \/ z = ⟨1, 2⟩ := by
  intro z hz;cases hq : mget (k : Int) (duM m l mi) with
  | none => rw [hq] at hz; exact .inl hz
  | some x => rw [hq] at hz; exact .inr (by rw [show z = x from hz]; exact zaO _ _ _ _ _ hq)
 have hz := hz _ rfl;unfold iTM at hP ⊢;generalize (mget (k : Int) (duM m l mi)).getD (bsT m s) = z at *
 generalize (zJ ch l l.length k).1 = c at *
 generalize (zJ ch l l.length k).2 = a at *
 have hg := zqO hM v1 v8 hz;have e01 : GT 2000 ⟨0, 1⟩ := zkn.mono (by decide);refine ⟨hP, ?_, e01, e01⟩;show GT 122 (if a = true then mulV z ⟨3, 2⟩ else z);split
 ·exact hg.2
 ·exact hg.1
theorem zsw {m : Mn} {l : List Sg} {ch mi : List Int} (h1 : mkE m l ch = 0) (h2 : duE m l mi = 0) (hD : zeG l) : ∀ x ∈ itmV m l ch mi, ItG x := by
 intro x hx;obtain ⟨i, hi⟩ := List.mem_iff_getElem?.1 hx;have hi2 := hi;rw [zhP (by unfold itmE; rw [if_pos h1, h2])] at hi;obtain ⟨k, s, hk, hs, h3, hn, hx2⟩ := zgd l.length hi;have hg := zqR h1 h2 hD hs h3;rw [hn, hi2] at hg;injection hg with hg;rw [hg];exact zsv h1 hs h3
section
variable {m : Mn} {l : List Sg}
end
end Go.Rse
namespace Go.Rse
open Go Go.Proofs
section
variable {m : Mn} {l : List Sg}
end
end Go.Rse
