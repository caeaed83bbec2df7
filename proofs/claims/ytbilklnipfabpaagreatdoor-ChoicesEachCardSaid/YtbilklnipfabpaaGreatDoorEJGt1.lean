/-
  Plain: no reading of a run of at most 10 signs is too long (which errors there are: none, or what does not fit).
-/
import Derived.Test.YtbilklnipfabpaaGreatDoorEJLaw18d
set_option linter.unusedSimpArgs false
set_option linter.unusedVariables false
namespace Go.Rse
open Go Go.Proofs
theorem zk4 : GT 0 ⟨0, 1⟩ := ⟨by decide +kernel, by decide, by decide⟩
theorem znl : ∀ (l : List Tm) (s : Tm) (A : Int), 0 <= A -> A + 122 * (l.length : Int) <= 100000 -> GT A s -> (∀ t ∈ l, GT 122 t) →
 (sumF s l).2 = 0 /\ GT (A + 122 * (l.length : Int)) (sumF s l).1
 | [], s, A, h0, hA, hs, _ => by simpa [sumF] using hs
 | t :: r, s, A, h0, hA, hs, hl => by
  simp only [List.length_cons, Int.natCast_add, Int.natCast_one] at hA;obtain ⟨e, hg⟩ := zkt hs (hl t (by simp)) h0 (by decide) (by omega) (by decide);simp only [sumF];rw [if_pos e];obtain ⟨i1, i2⟩ := znl r (addV s t) (A + 122) (by omega) (by omega) hg fun x hx => hl x (List.mem_cons_of_mem _ hx)
  refine ⟨i1, i2.mono ?_⟩;simp only [List.length_cons, Int.natCast_add, Int.natCast_one]; omega
theorem znm : ∀ (l : List Tm) (s : Tm) (A : Int), 0 <= A -> A + 122 * (l.length : Int) <= 100000 -> GT A s -> (∀ t ∈ l, GT 122 t) →
 ∀ t ∈ smF s l, GT (A + 122 * (l.length : Int)) t
 | [], s, A, h0, hA, hs, _ => fun t ht => by simp [smF] at ht
 | d :: r, s, A, h0, hA, hs, hl => fun t ht => by
  simp only [List.length_cons, Int.natCast_add, Int.natCast_one] at hA ⊢;obtain ⟨e, hg⟩ := zkt hs (hl d (by simp)) h0 (by decide) (by omega) (by decide);simp only [smF] at ht;rcases List.mem_cons.1 ht with rfl | ht
  ·exact hg.mono (by omega)
  ·exact (znm r (addV s d) (A + 122) (by omega) (by omega) hg (fun x hx => hl x (List.mem_cons_of_mem _ hx)) t ht).mono (by omega)
structure ItG (x : Ite) : Prop where
 p : itP x
 d : GT 122 x.Dur
 b : GT 2000 x.Before
 a : GT 2000 x.After
theorem zpc {l : List Ite} {s : Sgm} {x : Ite} (h : x ∈ itR l s) : x ∈ l := List.mem_of_mem_drop (List.mem_of_mem_take h)
theorem zse (l : List Ite) (s : Sgm) : (itR l s).length <= l.length := by unfold itR; rw [List.length_take, List.length_drop]; omega
theorem zqZ {l : List Ite} {s : Sgm} (h : ∀ x ∈ l, ItG x) : ∀ t ∈ drL (itR l s), GT 122 t := fun t ht => by
 unfold drL at ht;obtain ⟨x, hx, rfl⟩ := List.mem_map.1 ht;exact (h x (zpc hx)).d
theorem zk5 (l : List Ite) (s : Sgm) : (drL (itR l s)).length <= l.length := by unfold drL; rw [List.length_map]; exact zse l s
theorem zk6 {l : List Ite} {s : Sgm} (h : ∀ x ∈ l, ItG x) (hl : l.length <= 10) : ∀ t ∈ fsL (itR l s), GT 1220 t := fun t ht => by
 unfold fsL at ht;have hd := zk5 l s;exact (znm _ _ 0 (by decide) (by omega) zk4 (zqZ h) t ht).mono (by omega)
theorem zsf {l : List Ite} {s : Sgm} (h : ∀ x ∈ l, ItG x) (hl : l.length <= 10) : ∀ t ∈ lasL (itR l s), GT 1220 t := fun t ht => by
 unfold lasL at ht;split at ht
 ·simp at ht
 ·rename_i a ha;have hm := List.mem_of_getLast? ha;rcases List.mem_cons.1 ht with rfl | ht
  ·exact zk6 h hl _ hm
  ·obtain ⟨y, hy, rfl⟩ := List.mem_map.1 ht;rw [List.mem_filter] at hy;have hy2 : subE a y = 0 := by simpa using hy.2
   exact (ziT (zk6 h hl _ hm) (zk6 h hl _ (List.dropLast_subset _ hy.1)) (by decide) (by decide) (by rw [hy2]; decide)).2
theorem zq0 {u b : Tm} {S : List Tm} (h : rcQ u S b = true) (hS : ∀ t ∈ S, GT 1220 t) : GT 2000 (addV b u) := by
 unfold rcQ at h;simp only [Bool.and_eq_true, decide_eq_true_eq] at h;exact (hS _ h.2).mono (by decide)
theorem zq1 {m : Mn} {k : Int} (h : unE m k = 0) : ∃ f : Int, unT m k = ⟨f, 1⟩ /\ 1 <= f /\ f <= 27 := by
 obtain ⟨h1, h2, h3, h4⟩ := zeD h;have hb := zbu zpp h1 (show 1 <= k + 1 by omega) (show k + 1 <= 8 by omega);unfold unT; rw [if_pos h];unfold fuQ at hb;rw [decide_eq_false (show ¬ k + 1 <= 1 by omega), decide_eq_false (show ¬ 5 < k + 1 by omega)] at hb;simp only [Bool.and_eq_true, decide_eq_true_eq, Bool.false_or] at hb;have h2 := hb.2;unfold unL at h2;simp only [List.mem_cons, List.mem_nil_iff, or_false] at h2;rcases h2 with e | e | e | e | e | e | e | e | e | e <;> rw [e] <;> exact ⟨_, rfl, by decide, by decide⟩
theorem zgf {f : Int} (h1 : 1 <= f) (h2 : f <= 27) : GT 27 ⟨f, 1⟩ := by
 obtain ⟨n, rfl⟩ := Int.eq_ofNat_of_zero_le (show 0 <= f by omega);refine ⟨?_, ⟨48, by simp⟩, by simp only; omega⟩;have : ∀ n : Fin 28, 1 <= n.val -> ckT ⟨(n.val : Int), 1⟩ = 0 := by decide +kernel
 exact this ⟨n, by omega⟩ (by simp only; omega)
theorem zt6 {u : Tm} {x : Ite} {f : Int} {S : List Tm} (hu : u = ⟨f, 1⟩) (h1 : 1 <= f) (h27 : f <= 27) (hx : ItG x) (hl : lgQ u x = true) (hr : rcQ u S x.After = true) (hS : ∀ t ∈ S, GT 1220 t) : ItG (zr u x) := by
 have gu : GT 27 u := by rw [hu]; exact zgf h1 h27
 have hp := zrb hu gu.c hx.p hl hr
 have hs : ¬ subE x.Dur u = 2 := by
  have hl2 := hl;unfold lgQ at hl2;rw [decide_eq_true_iff] at hl2;have h0 := hu;subst h0;rw [(zgW (zd7 hx.p.1).2.1 gu.c hl2).1]; decide
 exact ⟨hp, (ziT hx.d gu (by decide) (by decide) hs).2, hx.b, zq0 hr hS⟩
theorem zt7 {u : Tm} {x : Ite} {f : Int} {S : List Tm} (hu : u = ⟨f, 1⟩) (h1 : 1 <= f) (h27 : f <= 27) (hx : ItG x) (hl : lgQ u x = true) (hr : rcQ u S x.Before = true) (hS : ∀ t ∈ S, GT 1220 t) : ItG (zam u x) := by
 have gu : GT 27 u := by rw [hu]; exact zgf h1 h27
 have hp := zrc hu gu.c hx.p hl hr
 have hs : ¬ subE x.Dur u = 2 := by
  have hl2 := hl;unfold lgQ at hl2;rw [decide_eq_true_iff] at hl2;have h0 := hu;subst h0;rw [(zgW (zd7 hx.p.1).2.1 gu.c hl2).1]; decide
 exact ⟨hp, (ziT hx.d gu (by decide) (by decide) hs).2, zq0 hr hS, hx.a⟩
theorem zt8 {u : Tm} {x : Ite} {f : Int} (hu : u = ⟨f, 1⟩) (h1 : 1 <= f) (h27 : f <= 27) (ha : addE u u = 0) (hn : 1 <= (addV u u).N) (hx : ItG x) (hd : x.Dur = u) : ItG (dblI x) := by
 have gu : GT 27 u := by rw [hu]; exact zgf h1 h27
 refine ⟨zrd ha hn hx.p hd, ?_, hx.b, hx.a⟩;show GT 122 (addV x.Dur x.Dur);rw [hd];exact (zkt gu gu (by decide) (by decide) (by decide) (by decide)).2.mono (by decide)
theorem zt9 {u : Tm} {k : Int} {l0 l : List Ite} {L : List (Int × Bool)} {s : Sgm} {c f : Int} (hu : u = ⟨f, 1⟩) (f1 : 1 <= f) (f27 : f <= 27) (ha : addE u u = 0) (hn : 1 <= (addV u u).N) (hs : SgOk k l0 s) (hl : l.length = l0.length) (h10 : l.length <= 10)
 (h : c ∈ alQ u k l L s) (hP : ∀ x ∈ l, ItG x) : ∀ x ∈ chN u s c l, ItG x := by
 have hc := zfm hs.ft h;unfold alQ at h;have hlf : (c = 1 \/ c = 3) -> s.Left < l.length /\ 0 <= s.Left /\ s.Left < s.From := fun h => by have := hs.tl; have := hs.ft; have := hc.lf h; rcases hs.lf with h2 | h2 <;> omega
 have hrt : (c = 2 \/ c = 3) -> s.Right < l.length /\ 0 <= s.Right /\ s.Right = s.To := fun h => by have := hs.tl; have := hs.ft; have := hc.rt h; rcases hs.rt with h2 | h2 <;> omega
 have hpo : (c = 1 \/ c = 3) -> poQ u k l L s = true := fun hh => by
  rcases zbq h with ⟨h1, _⟩ | ⟨h1, h2, _⟩ | ⟨h1, h2, _⟩ | ⟨h1, h2, h3, _⟩ | ⟨h1, h2, _⟩
  ·omega
  ·exact h2
  ·omega
  ·exact h2
  ·omega
 have han : (c = 2 \/ c = 3) -> anQ u k l s = true := fun hh => by
  rcases zbq h with ⟨h1, _⟩ | ⟨h1, h2, _⟩ | ⟨h1, h2, _⟩ | ⟨h1, h2, h3, _⟩ | ⟨h1, h2, _⟩
  ·omega
  ·omega
  ·exact h2
  ·exact h3
  ·omega
 have hat : c = 4 -> atQ u k l s = true := fun hh => by
  rcases zbq h with ⟨h1, _⟩ | ⟨h1, h2, _⟩ | ⟨h1, h2, _⟩ | ⟨h1, h2, h3, _⟩ | ⟨h1, h2, _⟩
  ·omega
  ·omega
  ·omega
  ·omega
  ·exact h2
 have hS1 := zk6 (s := s) hP h10;have hS2 := zsf (s := s) hP h10;unfold chN;simp only;by_cases h4 : c = 4
 ·have n1 : ¬ (c = 1 \/ c = 3) := by omega
  have n2 : ¬ (c = 2 \/ c = 3) := by omega
  rw [if_neg n2, if_neg n1, if_pos h4];obtain ⟨a1, a2⟩ := zlr (hat h4)
  have hd : (itg l (s.To - 1)).Dur = u := by
   unfold ntQ at a2;simp only [Bool.and_eq_true, decide_eq_true_eq] at a2;exact a2.2
  have := hs.ft; have := hs.tl; have := hs.f0;exact zh3 (by omega) (by omega) hP (zt8 hu f1 f27 ha hn (hP _ (zbV (by omega) (by omega))) hd)
 ·rw [if_neg h4]
  have hA : (∀ x ∈ (if c = 1 \/ c = 3 then upI l s.Left (zr u) else l), ItG x) /\ (if c = 1 \/ c = 3 then upI l s.Left (zr u) else l).length = l.length ∧
   ((c = 2 \/ c = 3) -> itg (if c = 1 \/ c = 3 then upI l s.Left (zr u) else l) s.Right = itg l s.Right) := by
   split
   ·rename_i hh;obtain ⟨b1, b2, b3⟩ := hlf hh;obtain ⟨c1, c2, c3⟩ := zlp (hpo hh);refine ⟨zh3 b2 b1 hP (zt6 hu f1 f27 (hP _ (zbV b2 b1)) c2 c3 hS1), zbW _ _ _, fun h2 => ?_⟩;obtain ⟨d1, d2, d3⟩ := hrt h2;have := hs.ft;rw [zba b2 d2 b1, if_neg (by omega)]
   ·exact ⟨hP, rfl, fun _ => rfl⟩
  generalize (if c = 1 \/ c = 3 then upI l s.Left (zr u) else l) = l1 at *
  obtain ⟨hA1, hA2, hA3⟩ := hA;split
  ·rename_i hh;obtain ⟨b1, b2, b3⟩ := hrt hh;obtain ⟨c1, c2, c3⟩ := zlq (han hh);rw [← hA3 hh] at c2 c3;exact zh3 b2 (by omega) hA1 (zt7 hu f1 f27 (hA1 _ (zbV b2 (by omega))) c2 c3 hS2)
  ·exact hA1
theorem zq2 {u : Tm} {k : Int} {S : List Sgm} {l : List Ite} {M : List Int} {f : Int} (hu : u = ⟨f, 1⟩) (f1 : 1 <= f) (f27 : f <= 27) (ha : addE u u = 0) (hn : 1 <= (addV u u).N) (h10 : l.length <= 10) (hS : SgsOk k l S) (hP : ∀ x ∈ l, ItG x) :
 ∀ n, n <= S.length -> okJ u k S l M n = true -> ∀ x ∈ (stK u S l M n).1, ItG x
 | 0, _, _ => hP
 | n + 1, hnn, hk => by
  have hk : (okJ u k S l M n && decide (M.getD n 0 ∈ alK u k S l M n)) = true := hk;simp only [Bool.and_eq_true, decide_eq_true_eq] at hk;have i1 := zq2 hu f1 f27 ha hn h10 hS hP n (by omega) hk.1;have hst := zg0 hS n (by omega) hk.1;rw [zh7];have hs : S[n]? = some S[n] := lgg (by omega);have hd : S.getD n default = S[n] := by rw [List.getD_eq_getElem?_getD, hs]; rfl
  have hso := hS.all _ (List.mem_of_getElem? hs);unfold alK at hk;rw [hd] at hk ⊢;generalize S[n] = s at *
  exact zt9 hu f1 f27 ha hn hso hst.len (by rw [hst.len]; exact h10) hk.2 i1
theorem zua {m : Mn} {k : Int} {l : List Ite} {M : List Int} (h : apE m k l M = 0) (h10 : l.length <= 10) (hP : ∀ x ∈ l, ItG x) : ∀ x ∈ apV m k l M, ItG x := by
 obtain ⟨h1, h2, h3⟩ := zh4 h;obtain ⟨f, u1, u2, u27⟩ := zq1 (zdY h1).1;obtain ⟨-, u3, u4, u5⟩ := zra (zdY h1).1;have hS := zb9 h1;have i1 := zq2 u1 u2 u27 u4 u5 h10 hS hP M.length (by omega) h3;unfold apV; rw [if_pos h];exact i1
abbrev eO2 (e : Int) : Prop := e = 0 \/ e = 14
theorem zwh {A B : Int} {a b : Tm} (ha : GT A a) (hb : GT B b) (h0 : 0 <= A) (hA : A <= 100000) : eO2 (lsE a b) /\ (lsE a b = 0 -> GT A (subV a b)) := by
 unfold lsE;by_cases h : subE a b = 2
 ·rw [if_pos h]; exact ⟨.inr rfl, fun h => absurd h (by decide)⟩
 ·rw [if_neg h];obtain ⟨e, g⟩ := ziT ha hb h0 hA h;exact ⟨.inl e, fun _ => g⟩
theorem zq3 {A : Int} {t d : Tm} {h : Int} (ht : GT A t) (hd : 0 <= h -> GT 2000 d) (h0 : 0 <= A) (hA : A <= 100000) : eO2 (cn1 t h d).2 /\ ((cn1 t h d).2 = 0 -> GT A (cn1 t h d).1) := by
 unfold cn1;split
 ·exact ⟨.inl rfl, fun _ => ht⟩
 ·obtain ⟨l1, l2⟩ := zwh ht (hd (by omega)) h0 hA;split
  ·rename_i h2;exact ⟨.inl rfl, fun _ => l2 h2⟩
  ·rename_i h2;exact ⟨l1, fun h => absurd h h2⟩
theorem zwi {k : Int} {l : List Ite} {s : Sgm} (hs : SgOk k l s) (h10 : l.length <= 10) (hl : ∀ x ∈ l, ItG x) : eO2 (cnC l s).2 /\ ((cnC l s).2 = 0 -> GT 1220 (cnC l s).1) := by
 have hd := zk5 l s;have hA0 := znl (drL (itR l s)) ⟨0, 1⟩ 0 (by decide) (by omega) zk4 (zqZ hl)
 have hA : (cnA l s).2 = 0 /\ GT 1220 (cnA l s).1 := by
  unfold cnA;exact ⟨hA0.1, hA0.2.mono (by omega)⟩
 have hB : eO2 (cnB l s).2 /\ ((cnB l s).2 = 0 -> GT 1220 (cnB l s).1) := by
  unfold cnB;rw [if_pos hA.1];refine zq3 hA.2 (fun h0 => ?_) (by decide) (by decide);have hlt : s.Left < l.length := by have := hs.tl; have := hs.ft; rcases hs.lf with h2 | h2 <;> omega
  exact (hl _ (zbV h0 hlt)).a
 unfold cnC;split
 ·rename_i h;refine zq3 (hB.2 h) (fun h0 => ?_) (by decide) (by decide);have hlt : s.Right < l.length := by have := hs.tl; have := hs.ft; rcases hs.rt with h2 | h2 <;> omega
  exact (hl _ (zbV h0 hlt)).b
 ·rename_i h; exact ⟨hB.1, fun e => absurd e h⟩
theorem zub {n d : Int} (h0 : 0 <= n) (h1 : 1 <= d) (hn : n <= 1099511627776) (hd : d <= 1048576) : tmkE n d = 0 := by
 have hg := zbJ (n := n) (d := d) (by omega);have ln : n / gI n d <= n := Int.ediv_le_self _ h0;have ld : d / gI n d <= d := Int.ediv_le_self _ (by omega);unfold tmkE;rw [if_neg (by omega), if_neg (by omega), if_neg (by omega)]
theorem znn (x : Int) {y : Int} (hy : 1 <= y) : 1 <= y / gI x y := by
 have hg := zbJ (n := x) (d := y) (by omega);have gy : gI x y ∣ y := Int.ofNat_dvd_left.2 (Nat.gcd_dvd_right _ _);have ey := Int.mul_ediv_cancel' gy;apply Classical.byContradiction;intro hn;have := Int.mul_le_mul_of_nonneg_left (show y / gI x y <= 0 by omega) (Int.le_of_lt hg);omega
theorem zsg {A f : Int} {a : Tm} (ha : GT A a) (h0 : 0 <= A) (hA : A <= 2000) (h1 : 1 <= f) (h27 : f <= 27) : tmsE a.N a.D 1 f = 0 := by
 have na := (zap ha.c).1;have hd := (zap ha.c).2.2.2.2.1;have ba := ha.b;have hD : a.D <= 48 := by rcases ha.dc with e | e | e | e | e | e | e | e | e | e <;> omega
 have hN : a.N <= 96000 := by rcases ha.dc with e | e | e | e | e | e | e | e | e | e <;> rw [e] at ba <;> omega
 have g1 := zbJ (n := a.N) (d := f) (by omega);have g2 := zbJ (n := 1) (d := a.D) (by omega);have l1 : a.N / gI a.N f <= a.N := Int.ediv_le_self _ na;have l2 : a.D / gI 1 a.D <= a.D := Int.ediv_le_self _ (by omega);have l3 : (1 : Int) / gI 1 a.D <= 1 := Int.ediv_le_self _ (by omega);have l4 : f / gI a.N f <= f := Int.ediv_le_self _ (by omega);have p1 := Int.ediv_nonneg na (show 0 <= gI a.N f by omega);have p2 := znn 1 hd;have p3 := Int.ediv_nonneg (show (0 : Int) <= 1 by omega) (show 0 <= gI 1 a.D by omega);have p4 := znn a.N h1;have m1 : a.N / gI a.N f * (1 / gI 1 a.D) <= 96000 * 1 := Int.mul_le_mul (by omega) l3 p3 (by omega);have m2 : a.D / gI 1 a.D * (f / gI a.N f) <= 48 * 27 := Int.mul_le_mul (by omega) (by omega) (by omega) (by omega);have m3 := mulP p2 p4;have m4 := Int.mul_nonneg p1 p3;unfold tmsE;generalize a.N / gI a.N f = x at *
 generalize (1 : Int) / gI 1 a.D = z at *
 generalize a.D / gI 1 a.D = y at *
 generalize f / gI a.N f = w at *
 rw [if_neg]
 ·exact zub m4 m3 (by omega) (by omega)
 ·rintro (⟨b1, b2⟩ | ⟨b1, b2⟩)
  ·have := (Int.ediv_lt_iff_lt_mul b1).1 b2;rw [Int.mul_comm] at this; omega
  ·have := (Int.ediv_lt_iff_lt_mul b1).1 b2;omega
theorem zuc {u : Tm} {k f : Int} {l : List Ite} {s : Sgm} (hu : u = ⟨f, 1⟩) (h1 : 1 <= f) (h27 : f <= 27) (hs : SgOk k l s) (h10 : l.length <= 10) (hl : ∀ x ∈ l, ItG x) : eO2 (cnE u l s) := by
 obtain ⟨a1, a2⟩ := zwi hs h10 hl;have gu := zgf h1 h27;unfold cnE;split
 ·rename_i h;have g := a2 h;refine .inl ?_;unfold divE;rw [hu, if_pos (zgk g.c gu.c), if_neg (by show ¬ f = 0; omega)];exact zsg g (by decide) (by decide) h1 h27
 ·exact a1
theorem zq4 {u : Tm} {l : List Ite} : ∀ {L : List Sgm}, (∀ s ∈ L, eO2 (cnE u l s)) -> eO2 (segX u l L)
 | [], _ => .inl rfl
 | s :: r, h => by
  simp only [segX];split
  ·exact zq4 fun t ht => h t (List.mem_cons_of_mem _ ht)
  ·unfold segR;split
   ·split
    ·exact .inr rfl
    ·exact .inl rfl
   ·exact h s (by simp)
theorem zud {m : Mn} {k : Int} {l : List Ite} (hu : unE m k = 0) (h10 : l.length <= 10) (hl : ∀ x ∈ l, ItG x) : eO2 (segE m k l) := by
 obtain ⟨f, u1, u2, u27⟩ := zq1 hu;unfold segE;rw [if_pos hu, if_pos (ziU fun x hx => (hl x hx).p.1)];exact zq4 fun s hs => zuc u1 u2 u27 ((ziV k l).all s hs) h10 hl
theorem zq5 {m : Mn} (hm : ckM m = 0) : ∀ (L : List Int) (l : List Ite) (C : List Int), (∀ k ∈ L, unE m k = 0) -> l.length <= 10 -> (∀ x ∈ l, ItG x) →
 eO2 (lvF m L l C).2.2 /\ ((lvF m L l C).2.2 = 0 -> ∀ x ∈ (lvF m L l C).2.1, ItG x)
 | [], l, C, _, _, hP => ⟨.inl rfl, fun _ => hP⟩
 | k :: r, l, C, hL, h10, hP => by
  simp only [lvF];split
  ·rename_i h;have a1 := zua (zh8 h) h10 hP;have a2 := (zun (zh8 h) fun x hx => (hP x hx).p).2.1;exact zq5 hm r (apV m k l (cuV m k l)) (C ++ cuV m k l) (fun x hx => hL x (List.mem_cons_of_mem _ hx)) (by rw [a2]; exact h10) a1
  ·rename_i h;refine ⟨?_, fun e => absurd e h⟩;have := zud (hL k (by simp)) h10 hP;unfold cuE;split
   ·split
    ·exact .inl rfl
    ·exact .inr rfl
   ·exact this
end Go.Rse
namespace Go.Rse
open Go Go.Proofs
def gtQ (t : Tm) : Bool := decide (ckT t = 0) && decide (48 % t.D = 0) && decide (t.N <= 122 * t.D)
theorem zc0 {t : Tm} (h : gtQ t = true) : GT 122 t := by
 unfold gtQ at h;simp only [Bool.and_eq_true, decide_eq_true_eq] at h;exact ⟨h.1.1, Int.dvd_of_emod_eq_zero h.1.2, h.2⟩
def gtM (m : Mn) (v : Int) : Bool := gtQ (fullT m v) && gtQ (durT m v) && gtQ (mulV (fullT m v) ⟨3, 2⟩) && gtQ (mulV (durT m v) ⟨3, 2⟩)
theorem zpd : zfF gtM = true := by kernel_rfl
theorem zsh {m : Mn} {s : Sg} {z : Tm} (hm : ckM m = 0) (h1 : 1 <= s.Value) (h8 : s.Value <= 8) (hz : z = bsT m s \/ z = ⟨3, 2⟩ \/ z = ⟨1, 2⟩) : GT 122 z /\ GT 122 (mulV z ⟨3, 2⟩) := by
 have h := zbu zpd hm h1 h8;unfold gtM at h;simp only [Bool.and_eq_true] at h;rcases hz with rfl | rfl | rfl
 ·unfold bsT; split
  ·exact ⟨zc0 h.1.1.2, zc0 h.2⟩
  ·exact ⟨zc0 h.1.1.1, zc0 h.1.2⟩
 ·exact ⟨zc0 (by decide +kernel), zc0 (by decide +kernel)⟩
 ·exact ⟨zc0 (by decide +kernel), zc0 (by decide +kernel)⟩
theorem zue {m : Mn} {l : List Sg} {ch mi : List Int} (h1 : mkE m l ch = 0) {k : Nat} {s : Sg} (hs : l[k]? = some s) (h3 : ¬ s.Kind = 3) : ItG (iTM m l ch mi k s) := by
 have hP := zrr (mi := mi) h1 hs h3;obtain ⟨hM, v1, v8⟩ := zbD (zgM h1) hs h3
 have hz : ∀ z, z = (mget (k : Int) (duM m l mi)).getD (bsT m s) -> z = bsT m s \/ z = ⟨3, 2⟩ \/ z = ⟨1, 2⟩ := by
  intro z hz;cases hq : mget (k : Int) (duM m l mi) with
  | none => rw [hq] at hz; exact .inl hz
  | some x => rw [hq] at hz; exact .inr (by rw [show z = x from hz]; exact za1 _ _ _ _ _ hq)
 have hz := hz _ rfl;unfold iTM at hP ⊢;generalize (mget (k : Int) (duM m l mi)).getD (bsT m s) = z at *
 generalize (zQ ch l l.length k).1 = c at *
 generalize (zQ ch l l.length k).2 = a at *
 have hg := zsh hM v1 v8 hz;have e01 : GT 2000 ⟨0, 1⟩ := zk4.mono (by decide);refine ⟨hP, ?_, e01, e01⟩;show GT 122 (if a = true then mulV z ⟨3, 2⟩ else z);split
 ·exact hg.2
 ·exact hg.1
theorem zuf {m : Mn} {l : List Sg} {ch mi : List Int} (h1 : mkE m l ch = 0) (h2 : duE m l mi = 0) (hD : zcy l) : ∀ x ∈ itmV m l ch mi, ItG x := by
 intro x hx;obtain ⟨i, hi⟩ := List.mem_iff_getElem?.1 hx;have hi2 := hi;rw [zgN (by unfold itmE; rw [if_pos h1, h2])] at hi;obtain ⟨k, s, hk, hs, h3, hn, hx2⟩ := zfh l.length hi;have hg := zno h1 h2 hD hs h3;rw [hn, hi2] at hg;injection hg with hg;rw [hg];exact zue h1 hs h3
section
variable {m : Mn} {l : List Sg}
theorem zug (h0 : ckD m l = 0) (hD : zcy l) : ∀ x ∈ rdI m l, ItG x := zuf (ziR (zak h0).1 h0) (ziS h0) hD
theorem zpe (h0 : ckD m l = 0) (hD : zcy l) (h10 : l.length <= 10) : eO2 (rdE m l) := by
 rw [zs3 h0 hD];have hM := (zak h0).1;exact (zq5 hM (perfL m) (rdI m l) [] (fun k hk => zuM hM hk) (Nat.le_trans zgj h10) (zug h0 hD)).1
end
end Go.Rse
namespace Go.Rse
open Go Go.Proofs
section
variable {m : Mn} {l : List Sg}
theorem zjv (hl : l.length <= 1000) (h : aqE m l = 0) {r : Rdg} (hr : r ∈ aqV m l) : r.Minor.length <= 1000 := by
 obtain ⟨n, -, C, J, hg, rfl⟩ := (ziy h).1 hr;have := znC m l n;show (iofM m l n).length <= 1000;omega
def fdQ (m : Mn) (l : List Sg) (i : Nat) : Bool := decide (rdE m l = 14) || decide (rdV m l ∈ (aqV m l).take i)
theorem zwj (m : Mn) (l : List Sg) : decide (rdE m l = 14) = fdQ m l 0 := by unfold fdQ; simp
theorem zwk {i : Nat} {x : Rdg} (hE : eO2 (rdE m l)) (hx : (aqV m l)[i]? = some x) (h : fdQ m l i = false) : (decide (rdE m l = 0) && decide (x = rdV m l)) = fdQ m l (i + 1) := by
 unfold fdQ at h ⊢;rw [Bool.or_eq_false_iff] at h
 have h0 : rdE m l = 0 := by
  rcases hE with e | e
  ·exact e
  ·rw [e] at h; simp at h
 rw [h.1, h0, Bool.false_or, List.take_add_one, hx];have h2 := of_decide_eq_false h.2;by_cases e : x = rdV m l
 ·subst e; simp
 ·have e2 : ¬ rdV m l = x := fun h => e h.symm
  simp [e, e2, h2]
theorem zsi {i : Nat} (hck : ckD m l = 0) (hE : eO2 (rdE m l)) (h : aqE m l = 0) (hi : (aqV m l).length <= i) : fdQ m l i = true := by
 unfold fdQ;rcases hE with e | e
 ·rw [List.take_of_length_le hi, decide_eq_true (zmK hck h e), Bool.or_true]
 ·rw [e]; rfl
def ltQ (m : Mn) (l : List Sg) (r : Rdg) (i : Nat) : Bool := decide (r ∈ (aqV m l).take i)
theorem zwl (r : Rdg) : false = ltQ m l r 0 := by unfold ltQ; simp
theorem zwm {i : Nat} {x r : Rdg} (hx : (aqV m l)[i]? = some x) : (ltQ m l r i || decide (x = r)) = ltQ m l r (i + 1) := by
 unfold ltQ;rw [List.take_add_one, hx];by_cases e : x = r
 ·subst e; simp
 ·have e2 : ¬ r = x := fun h => e h.symm
  simp [e, e2]
theorem zsj {r : Rdg} (hM : ckM m = 0) (hck : ckD m l = 0) (h : aqE m l = 0) : isV m l r = ltQ m l r (aqV m l).length := by
 unfold isV ltQ;rw [hck, zmJ hM hck h, List.take_length]; rfl
theorem zmq {r : Rdg} (hM : ckM m = 0) (hck : ckD m l = 0) (h : aqE m l = 0) (hr : r ∈ aqV m l) : isV m l r = true := by
 unfold isV;rw [hck, zmJ hM hck h, decide_eq_true hr]; rfl
theorem zpf (hck : ckD m l = 0) (hE : eO2 (rdE m l)) (h : ¬ aqE m l = 0) : ((decide (aqE m l = 14) && decide (rdE m l = 14)) || decide (aqE m l = 15)) = true := by
 rcases zsH hck with e | e | e
 ·exact absurd e h
 ·have := zuq hck e;rcases hE with e2 | e2
  ·exact absurd e2 this
  ·rw [e, e2]; rfl
 ·rw [e]; simp
theorem zsk (hM : ckM m = 0) (hck : ckD m l = 0) {q : Nat} {x : Rdg} (hx : (aqV m l)[q]? = some x) (h : 0 < (q : Int)) : ¬ x = (aqV m l).getD ((q : Int) - 1).toNat default := by
 have hq := (List.getElem?_eq_some_iff.1 hx).1;obtain ⟨p, rfl⟩ : ∃ p, q = p + 1 := ⟨q - 1, by omega⟩;obtain ⟨y, hy⟩ : ∃ y, (aqV m l)[p]? = some y := ⟨_, lgg (by omega)⟩;rw [show (((p + 1 : Nat) : Int) - 1).toNat = p by omega, List.getD_eq_getElem?_getD, hy];exact fun e => zpF hM hck (Nat.lt_succ_self p) hy hx e.symm
end
def chC (r : Rdg) (y : Int) : List Int := if r.Choices.length = 0 then r.Choices else r.Choices.set (y % (r.Choices.length : Int)).toNat ((r.Choices.getD (y % (r.Choices.length : Int)).toNat 0 + 1 + y.tdiv 7 % 4) % 5)
def chD (r : Rdg) (y : Int) : List Tm := if r.Durs.length = 0 \/ ¬ y.tmod 2 = 0 then r.Durs else r.Durs.set (y.tdiv 3 % (r.Durs.length : Int)).toNat (spN y)
def chR (r : Rdg) (y : Int) : Rdg := { r with Choices := chC r y, Durs := chD r y }
theorem zpg (r : Rdg) (y : Int) : (chC r y).length = r.Choices.length := by unfold chC; split <;> simp
theorem zph (r : Rdg) (y : Int) : (chD r y).length = r.Durs.length := by unfold chD; split <;> simp
end Go.Rse
