/-
  Plain: rests that last as long as a time, counted in eighths.
-/
import Derived.Test.YteecbmgddacioaaGreatSpell1
namespace Go.Rse
open Go Go.Proofs
set_option linter.unusedVariables false
set_option linter.unusedSimpArgs false
def fE (m : Mn) (v : Int) : Int := (fullT m v).N * 8 / (fullT m v).D
def feOk (m : Mn) (v : Int) : Bool := decide ((fullT m v).N * 8 = fE m v * (fullT m v).D) && decide (1 ≤ fE m v) && decide (fE m v ≤ 648) && decide (ckT (fullT m v) = 0) && decide ((fullT m v).D ≤ 8) && decide ((fullT m v).N ≤ 81) && decide (1 ≤ (fullT m v).N) &&
  (decide (v = 8) || decide (fE m v = m.p v * fE m (v + 1))) && (decide (¬ v = 8) || decide (fE m v = 1)) && (decide (¬ v = 1) || decide (128 ≤ fE m v)) && decide (m.p v ≤ 3)
theorem feOk_all : ckAll feOk = true := by kernel_rfl
structure FE (m : Mn) (v : Int) : Prop where
  e : (fullT m v).N * 8 = fE m v * (fullT m v).D
  b1 : 1 ≤ fE m v
  b2 : fE m v ≤ 648
  ck : ckT (fullT m v) = 0
  d : (fullT m v).D ≤ 8
  n : (fullT m v).N ≤ 81
  n1 : 1 ≤ (fullT m v).N
  p : v = 8 ∨ fE m v = m.p v * fE m (v + 1)
  l : ¬ v = 8 ∨ fE m v = 1
  g : ¬ v = 1 ∨ 128 ≤ fE m v
  p3 : m.p v ≤ 3
theorem fe_of {m : Mn} {v : Int} (hm : ckM m = 0) (h1 : 1 ≤ v) (h8 : v ≤ 8) : FE m v := by
  have h := ckAll_use feOk_all hm h1 h8
  unfold feOk at h
  simp only [Bool.and_eq_true, Bool.or_eq_true, decide_eq_true_eq] at h
  obtain ⟨⟨⟨⟨⟨⟨⟨⟨⟨⟨a, b⟩, c⟩, d⟩, e⟩, f⟩, g⟩, i⟩, j⟩, k⟩, l⟩ := h
  exact ⟨a, b, c, d, e, f, g, i, j, k, l⟩
/-- A valid time of r eighths. -/
def tE (t : Tm) (r : Int) : Prop := t.N * 8 = r * t.D ∧ ckT t = 0
theorem ck_cop {t : Tm} (h : ckT t = 0) : Nat.Coprime t.N.natAbs t.D.natAbs := by
  have := (ckT_b h).2.2.2.2.2
  unfold gI at this
  show Nat.gcd _ _ = 1
  omega
theorem tE_D {t : Tm} {r : Int} (h : tE t r) : t.D ≤ 8 := by
  have hb := ckT_b h.2
  have h1 : t.D ∣ t.N * 8 := ⟨r, by rw [h.1, Int.mul_comm]⟩
  have h2 := Int.natAbs_dvd_natAbs.2 h1
  rw [Int.natAbs_mul] at h2
  have h3 : t.D.natAbs ∣ (8 : Int).natAbs := Nat.Coprime.dvd_of_dvd_mul_left (ck_cop h.2).symm h2
  have h4 := Nat.le_of_dvd (by decide) h3
  omega
theorem tE_nn {t : Tm} {r : Int} (h : tE t r) : 0 ≤ r := by
  have hb := ckT_b h.2
  apply Classical.byContradiction
  intro hn
  have : r * t.D ≤ (-1) * t.D := Int.mul_le_mul_of_nonneg_right (by omega) (by omega)
  have := h.1; omega
theorem tE_inj {s t : Tm} {r : Int} (hs : tE s r) (ht : tE t r) : s = t := by
  have bs := ckT_b hs.2
  have bt := ckT_b ht.2
  have e : s.N * t.D = t.N * s.D := by
    have : (s.N * t.D) * 8 = (t.N * s.D) * 8 := by
      rw [Int.mul_right_comm, hs.1, Int.mul_right_comm t.N, ht.1, Int.mul_right_comm]
    omega
  have e2 := congrArg Int.natAbs e
  rw [Int.natAbs_mul, Int.natAbs_mul] at e2
  have d1 : s.D.natAbs ∣ t.D.natAbs := Nat.Coprime.dvd_of_dvd_mul_left (ck_cop hs.2).symm ⟨t.N.natAbs, by rw [e2, Nat.mul_comm]⟩
  have d2 : t.D.natAbs ∣ s.D.natAbs := Nat.Coprime.dvd_of_dvd_mul_left (ck_cop ht.2).symm ⟨s.N.natAbs, by rw [← e2, Nat.mul_comm]⟩
  have d3 := Nat.dvd_antisymm d1 d2
  have hD : s.D = t.D := by omega
  have hN : s.N = t.N := by
    rw [hD] at e
    exact Int.eq_of_mul_eq_mul_right (by omega) e
  cases s; cases t; simp at hD hN; rw [hD, hN]
theorem tE_mk {X Y r : Int} (h0 : 0 ≤ X) (h1 : 1 ≤ Y) (hX : X ≤ 1099511627776) (hY : Y ≤ 1048576) (h : X * 8 = r * Y) : tmkE X Y = 0 ∧ tE (tmkT X Y) r := by
  have hg := gI_pos (n := X) (d := Y) (by omega)
  have gx : gI X Y ∣ X := Int.ofNat_dvd_left.2 (Nat.gcd_dvd_left _ _)
  have gy : gI X Y ∣ Y := Int.ofNat_dvd_left.2 (Nat.gcd_dvd_right _ _)
  have ex := Int.mul_ediv_cancel' gx
  have ey := Int.mul_ediv_cancel' gy
  have qx := Int.ediv_nonneg h0 (Int.le_of_lt hg)
  have rx := Int.ediv_le_self (gI X Y) h0
  have ry := Int.ediv_le_self (gI X Y) (show 0 ≤ Y by omega)
  have qy : 0 < Y / gI X Y := by
    apply Classical.byContradiction
    intro hn
    have : gI X Y * (Y / gI X Y) ≤ gI X Y * 0 := Int.mul_le_mul_of_nonneg_left (by omega) (Int.le_of_lt hg)
    omega
  have hE : tmkE X Y = 0 := by
    unfold tmkE
    rw [if_neg (by omega), if_neg (by omega), if_neg (by omega)]
  refine ⟨hE, ?_⟩
  have hT : tmkT X Y = ⟨X / gI X Y, Y / gI X Y⟩ := by unfold tmkT; rw [if_pos hE]
  rw [hT]
  refine ⟨?_, ?_⟩
  · show X / gI X Y * 8 = r * (Y / gI X Y)
    have : gI X Y * (X / gI X Y * 8) = gI X Y * (r * (Y / gI X Y)) := by
      rw [← Int.mul_assoc, ex, h, Int.mul_left_comm, ey]
    exact Int.eq_of_mul_eq_mul_left (by omega) this
  · have hc : gI (X / gI X Y) (Y / gI X Y) = 1 := by
      obtain ⟨x, rfl⟩ := Int.eq_ofNat_of_zero_le h0
      obtain ⟨y, rfl⟩ := Int.eq_ofNat_of_zero_le (show 0 ≤ Y by omega)
      have e : gI (x : Int) (y : Int) = ((Nat.gcd x y : Nat) : Int) := by unfold gI; rfl
      have hg' : 0 < Nat.gcd x y := by rw [e] at hg; omega
      rw [e, ← Int.natCast_ediv, ← Int.natCast_ediv]
      unfold gI
      rw [Int.natAbs_natCast, Int.natAbs_natCast]
      have := Nat.coprime_div_gcd_div_gcd hg'
      unfold Nat.Coprime at this
      rw [this]; rfl
    unfold ckT
    rw [if_neg (by show ¬ (X / gI X Y < 0 ∨ 1099511627776 < X / gI X Y ∨ Y / gI X Y < 1 ∨ 1048576 < Y / gI X Y); omega), if_neg (by show ¬ 1 < gI (X / gI X Y) (Y / gI X Y); omega)]
theorem first_pr {a b : Tm} (ha : ckT a = 0) (hb : ckT b = 0) : firstT [a, b] = 0 := by simp [firstT, ha, hb]
theorem wh_E {m : Mn} {v : Int} {t : Tm} {r : Int} (hf : FE m v) (ht : tE t r) : whE t (fullT m v) = 0 ∧ whQ t (fullT m v) = r / fE m v ∧ tE (whR t (fullT m v)) (r % fE m v) := by
  have bt := ckT_b ht.2
  have bf := ckT_b hf.ck
  have hD := tE_D ht
  have hfd := hf.d
  have hfn := hf.n
  have hfn1 := hf.n1
  have hF := hf.e
  have F1 := hf.b1
  have hck := hf.ck
  clear hf
  generalize fE m v = F at *
  generalize fullT m v = f at *
  have c1 : 1 ≤ t.D * f.D := mulP (by omega) (by omega)
  have c2 : t.D * f.D ≤ 8 * 8 := (mulB (by omega) hD (by omega) hfd).2
  have eA : t.N * f.D * 8 = r * (t.D * f.D) := by rw [Int.mul_right_comm, ht.1, Int.mul_assoc]
  have eB : f.N * t.D * 8 = F * (t.D * f.D) := by rw [Int.mul_right_comm, hF, Int.mul_assoc, Int.mul_comm f.D]
  have bB1 : 1 ≤ f.N * t.D := mulP hfn1 (by omega)
  have bB2 : f.N * t.D ≤ 81 * 8 := (mulB (by omega) hfn (by omega) hD).2
  have hq : t.N * f.D / (f.N * t.D) = r / F := by
    rw [← Int.mul_ediv_mul_of_pos_left (t.N * f.D) (f.N * t.D) (show (0 : Int) < 8 by decide), eA, eB, Int.mul_ediv_mul_of_pos_left _ _ (by omega)]
  have hx : t.N * f.D % (f.N * t.D) * 8 = r % F * (t.D * f.D) := by
    have a1 := Int.emod_add_mul_ediv (t.N * f.D) (f.N * t.D)
    have a2 := Int.emod_add_mul_ediv r F
    rw [hq] at a1
    have a3 : (t.N * f.D % (f.N * t.D) + f.N * t.D * (r / F)) * 8 = (r % F + F * (r / F)) * (t.D * f.D) := by rw [a1, a2, eA]
    rw [Int.add_mul, Int.add_mul, Int.mul_right_comm (f.N * t.D), eB, Int.mul_right_comm F] at a3
    omega
  have x0 := Int.emod_nonneg (t.N * f.D) (show f.N * t.D ≠ 0 by omega)
  have x1 := Int.emod_lt_of_pos (t.N * f.D) (show 0 < f.N * t.D by omega)
  obtain ⟨k1, k2⟩ := tE_mk x0 c1 (by omega) (by omega) hx
  have hE : whE t f = 0 := by
    unfold whE
    rw [if_pos (first_pr ht.2 hck), if_neg (by omega)]; exact k1
  refine ⟨hE, ?_, ?_⟩
  · unfold whQ; rw [if_pos hE, hq]
  · unfold whR; rw [if_pos hE]; exact k2
/-- What is left in eighths ahead of the value 1 + k; how many of that value. -/
def rrK (m : Mn) (r : Int) : Nat → Int
  | 0 => r
  | k + 1 => rrK m r k % fE m (1 + (k : Int))
def qK (m : Mn) (r : Int) (k : Nat) : Int := rrK m r k / fE m (1 + (k : Int))
def outK (m : Mn) (r : Int) : Nat → List Int
  | 0 => []
  | k + 1 => outK m r k ++ List.replicate (qK m r k).toNat (1 + (k : Int))
theorem rr_nn {m : Mn} (hm : ckM m = 0) {r : Int} (h : 0 ≤ r) : ∀ k, k ≤ 8 → 0 ≤ rrK m r k
  | 0, _ => h
  | k + 1, hk => Int.emod_nonneg _ (by have := (fe_of hm (v := 1 + (k : Int)) (by omega) (by omega)).b1; omega)
theorem rr_lt {m : Mn} (hm : ckM m = 0) {r : Int} (k : Nat) (hk : k < 8) : rrK m r (k + 1) < fE m (1 + (k : Int)) := by
  have := (fe_of hm (v := 1 + (k : Int)) (by omega) (by omega)).b1
  exact Int.emod_lt_of_pos _ (by omega)
theorem q_nn {m : Mn} (hm : ckM m = 0) {r : Int} (h : 0 ≤ r) (k : Nat) (hk : k < 8) : 0 ≤ qK m r k := by
  have := (fe_of hm (v := 1 + (k : Int)) (by omega) (by omega)).b1
  exact Int.ediv_nonneg (rr_nn hm h k (by omega)) (by omega)
theorem q_lt {m : Mn} (hm : ckM m = 0) {r : Int} (k : Nat) (hk : k + 1 < 8) : qK m r (k + 1) < m.p (1 + (k : Int)) := by
  have h1 := rr_lt hm (r := r) k (by omega)
  have hf := fe_of hm (v := 1 + (k : Int)) (by omega) (by omega)
  have hf2 := fe_of hm (v := 1 + ((k + 1 : Nat) : Int)) (by omega) (by omega)
  have hp : fE m (1 + (k : Int)) = m.p (1 + (k : Int)) * fE m (1 + ((k + 1 : Nat) : Int)) := by
    rcases hf.p with h | h
    · omega
    · rw [h, show 1 + (k : Int) + 1 = 1 + ((k + 1 : Nat) : Int) by omega]
  unfold qK
  exact Int.ediv_lt_of_lt_mul (by have := hf2.b1; omega) (by rw [← hp]; exact h1)
theorem q_0 {m : Mn} (hm : ckM m = 0) {r : Int} (h16 : r ≤ 16000) : qK m r 0 ≤ 125 := by
  have hf := fe_of hm (v := 1) (by omega) (by omega)
  have hg : 128 ≤ fE m 1 := by rcases hf.g with h | h; exact absurd rfl h; exact h
  have : qK m r 0 < 126 := by
    unfold qK
    refine Int.ediv_lt_of_lt_mul (by show 0 < fE m (1 + ((0 : Nat) : Int)); rw [show (1 : Int) + ((0 : Nat) : Int) = 1 by omega]; omega) ?_
    show r < 126 * fE m (1 + ((0 : Nat) : Int))
    rw [show (1 : Int) + ((0 : Nat) : Int) = 1 by omega]; omega
  omega
theorem rs_inv {m : Mn} (hm : ckM m = 0) {t : Tm} {r : Int} (ht : tE t r) : ∀ k, k ≤ 8 → tE (rsP m t k).2 (rrK m r k) ∧ (rsP m t k).1 = outK m r k
  | 0, _ => ⟨ht, rfl⟩
  | k + 1, hk => by
    obtain ⟨h1, h2⟩ := rs_inv hm ht k (by omega)
    have hw := wh_E (fe_of hm (v := 1 + (k : Int)) (by omega) (by omega)) h1
    rw [rsP_s]
    refine ⟨hw.2.2, ?_⟩
    show _ ++ _ = _
    rw [h2, hw.2.1]; rfl
theorem out_len {m : Mn} (hm : ckM m = 0) {r : Int} (h0 : 0 ≤ r) (h16 : r ≤ 16000) : ∀ k, k ≤ 8 → (outK m r k).length ≤ 125 + 2 * k
  | 0, _ => by unfold outK; simp
  | k + 1, hk => by
    have ih := out_len hm h0 h16 k (by omega)
    unfold outK
    rw [List.length_append, List.length_replicate]
    cases k with
    | zero => have := q_0 hm h16; unfold outK; simp; omega
    | succ k =>
      have h1 := q_lt hm (r := r) k (by omega)
      have h2 := (fe_of hm (v := 1 + (k : Int)) (by omega) (by omega)).p3
      omega
theorem rs_all {m : Mn} (hm : ckM m = 0) {t : Tm} {r : Int} (ht : tE t r) (h16 : r ≤ 16000) : rsAll m t = true := by
  have h0 := tE_nn ht
  have key : ∀ j, j < 8 → rsOk m t j = true := fun j hj => by
    obtain ⟨h1, h2⟩ := rs_inv hm ht j (by omega)
    have hw := wh_E (fe_of hm (v := 1 + (j : Int)) (by omega) (by omega)) h1
    have hl := out_len hm h0 h16 j (by omega)
    have hl2 := out_len hm h0 h16 (j + 1) (by omega)
    unfold outK at hl2
    rw [List.length_append, List.length_replicate] at hl2
    unfold rsOk
    rw [h2, hw.1, hw.2.1]
    have : rrK m r j / fE m (1 + (j : Int)) = qK m r j := rfl
    rw [this, decide_eq_true rfl, decide_eq_true (by omega)]; rfl
  rw [rs_good key]
  obtain ⟨h1, _⟩ := rs_inv hm ht 8 (by omega)
  have h8 : rrK m r 8 = 0 := by
    have hf := fe_of hm (v := 8) (by omega) (by omega)
    have : fE m (1 + ((7 : Nat) : Int)) = 1 := by rcases hf.l with h | h; exact absurd rfl h; exact h
    show rrK m r 7 % fE m (1 + ((7 : Nat) : Int)) = 0
    rw [this]; omega
  have := h1.1
  rw [h8] at this
  exact decide_eq_true (by omega)
theorem rst_law {m : Mn} (hm : ckM m = 0) {t : Tm} {r : Int} (ht : tE t r) (h1 : 1 ≤ r) (h16 : r ≤ 16000) : rstE m t = 0 ∧ rstV m t = outK m r 8 := by
  have hb : bthE m t = 0 := by unfold bthE; rw [if_pos hm]; exact ht.2
  have hN : ¬ t.N = 0 := fun e => by
    have := ht.1; rw [e] at this
    have hD := (ckT_b ht.2).2.2.2.2.1
    have := mulP h1 hD; omega
  obtain ⟨a, b⟩ := rst_ok hb hN (rs_all hm ht h16)
  exact ⟨a.symm, by rw [← b]; exact (rs_inv hm ht 8 (by omega)).2⟩
theorem out_mem {m : Mn} {r : Int} : ∀ (k : Nat) (x : Int), x ∈ outK m r k → 1 ≤ x ∧ x ≤ (k : Int)
  | 0, x, h => by unfold outK at h; simp at h
  | k + 1, x, h => by
    unfold outK at h
    rcases List.mem_append.1 h with h | h
    · have := out_mem k x h; omega
    · have := (List.mem_replicate.1 h).2; omega
theorem out_inc {m : Mn} {r : Int} : ∀ k, (outK m r k).Pairwise (· ≤ ·)
  | 0 => by unfold outK; exact .nil
  | k + 1 => by
    unfold outK
    refine List.pairwise_append.2 ⟨out_inc k, ?_, fun a ha b hb => ?_⟩
    · exact List.pairwise_replicate.2 (.inr (Int.le_refl _))
    · have h1 := out_mem k a ha
      have h2 := (List.mem_replicate.1 hb).2
      omega
def cntI (l : List Int) (v : Int) : Int := (l.countP (fun u => decide (u = v)) : Nat)
theorem cnt_out {m : Mn} (hm : ckM m = 0) {r : Int} (h0 : 0 ≤ r) : ∀ (k : Nat) (j : Nat), k ≤ 8 → cntI (outK m r k) (1 + (j : Int)) = if j < k then qK m r j else 0
  | 0, j, _ => by rw [if_neg (by omega)]; unfold outK cntI; rfl
  | k + 1, j, hk => by
    have ih := cnt_out hm h0 k j (by omega)
    have hq := q_nn hm h0 k (by omega)
    unfold cntI at ih ⊢
    unfold outK
    rw [List.countP_append, List.countP_replicate]
    by_cases e : j = k
    · subst e
      rw [if_pos (by simp), if_pos (by omega)]
      rw [if_neg (by omega)] at ih
      omega
    · rw [if_neg (by simp; omega)]
      by_cases h : j < k
      · rw [if_pos h] at ih; rw [if_pos (by omega)]; omega
      · rw [if_neg h] at ih; rw [if_neg (by omega)]; omega
theorem sum_rep (x : Int) : ∀ n : Nat, (List.replicate n x).sum = (n : Int) * x
  | 0 => by simp
  | n + 1 => by
    rw [List.replicate_succ, List.sum_cons, sum_rep x n]
    have : ((n + 1 : Nat) : Int) * x = (n : Int) * x + x := by rw [Int.natCast_add, Int.add_mul]; simp
    omega
def sE (m : Mn) (l : List Int) : Int := (l.map (fE m)).sum
theorem out_sum {m : Mn} (hm : ckM m = 0) {r : Int} (h0 : 0 ≤ r) : ∀ k, k ≤ 8 → sE m (outK m r k) + rrK m r k = r
  | 0, _ => by unfold outK sE rrK; simp
  | k + 1, hk => by
    have ih := out_sum hm h0 k (by omega)
    have hq := q_nn hm h0 k (by omega)
    have e : rrK m r k = rrK m r (k + 1) + fE m (1 + (k : Int)) * qK m r k := (Int.emod_add_mul_ediv _ _).symm
    unfold outK
    unfold sE at ih ⊢
    rw [List.map_append, List.sum_append, List.map_replicate, sum_rep, Int.toNat_of_nonneg hq, Int.mul_comm (qK m r k)]
    omega
theorem sumF_tE {m : Mn} (hm : ckM m = 0) : ∀ (l : List Int) (s : Tm) (a : Int), (∀ x, x ∈ l → 1 ≤ x ∧ x ≤ 8) → tE s a → a + sE m l ≤ 1000000 → (sumF s (l.map (fullT m))).2 = 0 ∧ tE (sumF s (l.map (fullT m))).1 (a + sE m l)
  | [], s, a, _, hs, _ => ⟨rfl, by unfold sE; simp; exact hs⟩
  | x :: l, s, a, hx, hs, hb => by
    have hx0 := hx x (by simp)
    have hf := fe_of hm hx0.1 hx0.2
    have e : sE m (x :: l) = fE m x + sE m l := by unfold sE; simp
    have bs := ckT_b hs.2
    have bf := ckT_b hf.ck
    have hD := tE_D hs
    have ha := tE_nn hs
    have hsl : 0 ≤ sE m l := by
      have : ∀ l : List Int, (∀ y, y ∈ l → 1 ≤ y ∧ y ≤ 8) → 0 ≤ sE m l := by
        intro l
        induction l with
        | nil => intro _; unfold sE; simp
        | cons y l ih =>
          intro h
          have h1 := (fe_of hm (h y (by simp)).1 (h y (by simp)).2).b1
          have h2 := ih fun z hz => h z (by simp [hz])
          unfold sE at h2 ⊢; simp; omega
      exact this l fun y hy => hx y (by simp [hy])
    have hb1 := hf.b1
    have hfd := hf.d
    have hfn := hf.n
    have hsN : s.N ≤ 1000000 := by
      have h1 : a * s.D ≤ 1000000 * 8 := (mulB ha (show a ≤ 1000000 by omega) (by omega) hD).2
      have := hs.1; omega
    have p1 := mulB bs.1 hsN (show 0 ≤ (fullT m x).D by omega) hfd
    have p2 := mulB bf.1 hfn (show 0 ≤ s.D by omega) hD
    have c1 : 1 ≤ s.D * (fullT m x).D := mulP (by omega) (by omega)
    have c2 := (mulB (show 0 ≤ s.D by omega) hD (show 0 ≤ (fullT m x).D by omega) hfd).2
    have key : (s.N * (fullT m x).D + (fullT m x).N * s.D) * 8 = (a + fE m x) * (s.D * (fullT m x).D) := by
      rw [Int.add_mul, Int.mul_right_comm s.N, hs.1, Int.mul_right_comm (fullT m x).N, hf.e, Int.add_mul, Int.mul_assoc, Int.mul_assoc, Int.mul_comm (fullT m x).D]
    obtain ⟨k1, k2⟩ := tE_mk (by omega) c1 (by omega) (by omega) key
    have hE : addE s (fullT m x) = 0 := by unfold addE; rw [if_pos (first_pr hs.2 hf.ck)]; exact k1
    have hV : addV s (fullT m x) = tmkT (s.N * (fullT m x).D + (fullT m x).N * s.D) (s.D * (fullT m x).D) := by unfold addV; rw [if_pos (first_pr hs.2 hf.ck)]
    rw [List.map_cons]
    unfold sumF
    rw [if_pos hE, hV, e, ← Int.add_assoc]
    exact sumF_tE hm l _ _ (fun y hy => hx y (by simp [hy])) k2 (by omega)
theorem firstT_all : ∀ {l : List Tm}, (∀ t, t ∈ l → ckT t = 0) → firstT l = 0
  | [], _ => rfl
  | t :: l, h => by
    unfold firstT
    rw [if_pos (h t (by simp))]
    exact firstT_all fun u hu => h u (by simp [hu])
theorem sum_law {m : Mn} (hm : ckM m = 0) {t : Tm} {r : Int} (ht : tE t r) (h16 : r ≤ 16000) : sumE ((outK m r 8).map (fullT m)) = 0 ∧ sumV ((outK m r 8).map (fullT m)) = t := by
  have h0 := tE_nn ht
  have hmem : ∀ x, x ∈ outK m r 8 → 1 ≤ x ∧ x ≤ 8 := fun x hx => out_mem 8 x hx
  have hs : sE m (outK m r 8) = r := by
    have h1 := out_sum hm h0 8 (by omega)
    have hf := fe_of hm (v := 8) (by omega) (by omega)
    have : fE m (1 + ((7 : Nat) : Int)) = 1 := by rcases hf.l with h | h; exact absurd rfl h; exact h
    have h8 : rrK m r 8 = 0 := by
      show rrK m r 7 % fE m (1 + ((7 : Nat) : Int)) = 0
      rw [this]; omega
    omega
  have hz : tE ⟨0, 1⟩ 0 := ⟨by decide, by decide +kernel⟩
  obtain ⟨k1, k2⟩ := sumF_tE hm (outK m r 8) ⟨0, 1⟩ 0 hmem hz (by rw [hs]; omega)
  rw [hs, Int.zero_add] at k2
  have hfst : firstT ((outK m r 8).map (fullT m)) = 0 := firstT_all fun u hu => by
    obtain ⟨x, hx, rfl⟩ := List.mem_map.1 hu
    exact (fe_of hm (hmem x hx).1 (hmem x hx).2).ck
  unfold sumE sumV
  rw [if_pos hfst, if_pos hfst]
  exact ⟨k1, tE_inj k2 ht⟩
theorem tE_of {n q : Int} (hn : 1 ≤ n ∧ n ≤ 2000) (hq : q = 1 ∨ q = 2 ∨ q = 4 ∨ q = 8) : ∃ r, 1 ≤ r ∧ r ≤ 16000 ∧ tE ⟨n / gI n q, q / gI n q⟩ r := by
  have key : ∀ r, n * 8 = r * q → tE ⟨n / gI n q, q / gI n q⟩ r := fun r h => by
    obtain ⟨k1, k2⟩ := tE_mk (X := n) (Y := q) (by omega) (by omega) (by omega) (by omega) h
    unfold tmkT at k2
    rw [if_pos k1] at k2; exact k2
  rcases hq with rfl | rfl | rfl | rfl
  · exact ⟨n * 8, by omega, by omega, key _ (by omega)⟩
  · exact ⟨n * 4, by omega, by omega, key _ (by omega)⟩
  · exact ⟨n * 2, by omega, by omega, key _ (by omega)⟩
  · exact ⟨n, by omega, by omega, key _ (by omega)⟩
end Go.Rse
