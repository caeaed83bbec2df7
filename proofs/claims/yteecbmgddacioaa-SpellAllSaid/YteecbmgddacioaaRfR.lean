/-
  Plain: rests, one after the other and by division, are the same.
-/
import Derived.Test.YteecbmgddacioaaRef22e
namespace Go.Rse
open Go Go.Proofs
set_option linter.unusedVariables false
set_option linter.unusedSimpArgs false
def fuB (m : Mn) (v : Int) : Bool := (decide (¬ v ≤ 5) || (decide ((fullT m v).D = 1) && decide (1 ≤ (fullT m v).N))) && (decide (¬ v = 5) || decide (fullT m v = ⟨1, 1⟩)) && (decide (¬ v = 6) || decide (fullT m v = ⟨1, 2⟩)) && (decide (¬ v = 7) || decide (fullT m v = ⟨1, 4⟩)) && (decide (¬ v = 8) || decide (fullT m v = ⟨1, 8⟩))
theorem fuB_all : ckAll fuB = true := by kernel_rfl
theorem fu_of {m : Mn} {v : Int} (hm : ckM m = 0) (h1 : 1 ≤ v) (h8 : v ≤ 8) : (v ≤ 5 → (fullT m v).D = 1 ∧ 1 ≤ (fullT m v).N) ∧ (v = 5 → fullT m v = ⟨1, 1⟩) ∧ (v = 6 → fullT m v = ⟨1, 2⟩) ∧ (v = 7 → fullT m v = ⟨1, 4⟩) ∧ (v = 8 → fullT m v = ⟨1, 8⟩) := by
  have h := ckAll_use fuB_all hm h1 h8
  unfold fuB at h
  simp only [Bool.and_eq_true, Bool.or_eq_true, decide_eq_true_eq] at h
  obtain ⟨⟨⟨⟨a, b⟩, c⟩, d⟩, e⟩ := h
  exact ⟨fun h => a.elim (fun n => absurd h n) id, fun h => b.elim (fun n => absurd h n) id, fun h => c.elim (fun n => absurd h n) id, fun h => d.elim (fun n => absurd h n) id, fun h => e.elim (fun n => absurd h n) id⟩
theorem gI_one {a b : Int} (h : ∀ g : Nat, (g : Int) ∣ a → (g : Int) ∣ b → g = 1) : gI a b = 1 := by
  have h1 : (Nat.gcd a.natAbs b.natAbs : Int) ∣ a := Int.ofNat_dvd_left.2 (Nat.gcd_dvd_left _ _)
  have h2 : (Nat.gcd a.natAbs b.natAbs : Int) ∣ b := Int.ofNat_dvd_left.2 (Nat.gcd_dvd_right _ _)
  unfold gI; rw [h _ h1 h2]; rfl
theorem cop_dvd {t : Tm} (h : ckT t = 0) {g : Nat} (h1 : (g : Int) ∣ t.N) (h2 : (g : Int) ∣ t.D) : g = 1 := by
  have c := ck_cop h
  have h3 := Nat.dvd_gcd (Int.ofNat_dvd_left.1 h1) (Int.ofNat_dvd_left.1 h2)
  rw [show Nat.gcd t.N.natAbs t.D.natAbs = 1 from c] at h3
  exact Nat.dvd_one.1 h3
theorem tmk_one {X Y : Int} (h : gI X Y = 1) (h0 : 0 ≤ X) (h1 : 1 ≤ Y) (hX : X ≤ 1099511627776) (hY : Y ≤ 1048576) : tmkE X Y = 0 ∧ tmkT X Y = ⟨X, Y⟩ ∧ ckT ⟨X, Y⟩ = 0 := by
  have e : tmkE X Y = 0 := by unfold tmkE; rw [if_neg (by omega), if_neg (by omega), h, Int.ediv_one, Int.ediv_one, if_neg (by omega)]
  refine ⟨e, ?_, ?_⟩
  · unfold tmkT; rw [if_pos e, h, Int.ediv_one, Int.ediv_one]
  · unfold ckT; rw [if_neg (by simp only; omega), if_neg (by simp only; omega)]
theorem gI_mod {t : Tm} (h : ckT t = 0) {x : Int} (k : Int) (hx : x = t.N - k * t.D) : gI x t.D = 1 := by
  refine gI_one fun g h1 h2 => cop_dvd h ?_ h2
  have : t.N = x + k * t.D := by omega
  rw [this]
  exact Int.dvd_add h1 (Int.dvd_mul_of_dvd_right h2)
/-- Whole durations are taken off: the denominator stays. -/
theorem sb_whole {t : Tm} {f : Int} (h : ckT t = 0) (hF : ckT ⟨f, 1⟩ = 0) (hf : 1 ≤ f) : ∀ j : Nat, (j : Int) * (f * t.D) ≤ t.N → sbT ⟨f, 1⟩ t j = ⟨t.N - (j : Int) * (f * t.D), t.D⟩ ∧ ckT ⟨t.N - (j : Int) * (f * t.D), t.D⟩ = 0
  | 0, _ => by simp [sbT, h]
  | j + 1, hj => by
    have hb := ckT_b h
    have hfd : 0 ≤ f * t.D := Int.mul_nonneg (by omega) (by omega)
    have e1 : ((j + 1 : Nat) : Int) * (f * t.D) = (j : Int) * (f * t.D) + f * t.D := by
      rw [show ((j + 1 : Nat) : Int) = (j : Int) + 1 by omega, Int.add_mul, Int.one_mul]
    obtain ⟨i1, i2⟩ := sb_whole h hF hf j (by omega)
    have hX0 : 0 ≤ (j : Int) * (f * t.D) := Int.mul_nonneg (by omega) hfd
    have hg : gI (t.N - ((j + 1 : Nat) : Int) * (f * t.D)) t.D = 1 := gI_mod h (((j + 1 : Nat) : Int) * f) (by rw [Int.mul_assoc])
    obtain ⟨k1, k2, k3⟩ := tmk_one hg (by omega) (by omega) (by omega) (by omega)
    refine ⟨?_, k3⟩
    unfold sbT
    rw [i1]
    unfold subV
    rw [if_pos (by simp [firstT, i2, hF])]
    simp only [Int.mul_one]
    rw [show t.N - (j : Int) * (f * t.D) - f * t.D = t.N - ((j + 1 : Nat) : Int) * (f * t.D) by omega]
    exact k2
theorem cmp_lt {s F : Tm} (hs : ckT s = 0) (hF : ckT F = 0) : cmpV s F < 0 ↔ s.N * F.D < F.N * s.D := cmpV_lt hs hF
/-- One value, whole: what the loop comes to. -/
theorem st_whole {t : Tm} {f : Int} (h : ckT t = 0) (hF : ckT ⟨f, 1⟩ = 0) (hf : 1 ≤ f) (B : Nat) :
    whE t ⟨f, 1⟩ = 0 ∧ 0 ≤ whQ t ⟨f, 1⟩ ∧ ckT (whR t ⟨f, 1⟩) = 0 ∧ ltT (whR t ⟨f, 1⟩) ⟨f, 1⟩ ∧
      (whQ t ⟨f, 1⟩ < B → sbN ⟨f, 1⟩ t B 0 = (whQ t ⟨f, 1⟩).toNat ∧ sbT ⟨f, 1⟩ t (whQ t ⟨f, 1⟩).toNat = whR t ⟨f, 1⟩) ∧ ((B : Int) ≤ whQ t ⟨f, 1⟩ → sbN ⟨f, 1⟩ t B 0 = B) := by
  have hb := ckT_b h
  have hfd : 0 < f * t.D := Int.mul_pos (by omega) (by omega)
  have hme := Int.emod_nonneg t.N (show f * t.D ≠ 0 by omega)
  have hml := Int.emod_lt_of_pos t.N hfd
  have hdm : t.N = f * t.D * (t.N / (f * t.D)) + t.N % (f * t.D) := (Int.mul_ediv_add_emod t.N (f * t.D)).symm
  have hq0 : 0 ≤ t.N / (f * t.D) := Int.ediv_nonneg hb.1 (by omega)
  have hmN : t.N % (f * t.D) ≤ t.N := by
    have := Int.mul_nonneg (show 0 ≤ f * t.D by omega) hq0
    omega
  have hg : gI (t.N % (f * t.D)) t.D = 1 := gI_mod h (t.N / (f * t.D) * f) (by
    have : t.N / (f * t.D) * f * t.D = f * t.D * (t.N / (f * t.D)) := by rw [Int.mul_assoc, Int.mul_comm]
    omega)
  obtain ⟨k1, k2, k3⟩ := tmk_one hg hme (by omega) (by omega) (by omega)
  have hE : whE t ⟨f, 1⟩ = 0 := by
    unfold whE
    rw [if_pos (by simp [firstT, h, hF]), if_neg (by simp only; omega)]
    simpa only [Int.mul_one] using k1
  have hQ : whQ t ⟨f, 1⟩ = t.N / (f * t.D) := by unfold whQ; rw [if_pos hE]; simp only [Int.mul_one]
  have hR : whR t ⟨f, 1⟩ = ⟨t.N % (f * t.D), t.D⟩ := by unfold whR; rw [if_pos hE]; simpa only [Int.mul_one] using k2
  rw [hQ, hR]
  have hle : ∀ j : Nat, (j : Int) ≤ t.N / (f * t.D) → (j : Int) * (f * t.D) ≤ t.N := fun j hj => by
    have := Int.mul_le_mul_of_nonneg_right hj (show 0 ≤ f * t.D by omega)
    rw [Int.mul_comm (t.N / (f * t.D))] at this
    omega
  have hge : ∀ j : Nat, (j : Int) < t.N / (f * t.D) → ¬ cmpV (sbT ⟨f, 1⟩ t j) ⟨f, 1⟩ < 0 := fun j hj => by
    obtain ⟨i1, i2⟩ := sb_whole h hF hf j (hle j (by omega))
    rw [i1, cmp_lt i2 hF]
    have := hle (j + 1) (by omega)
    rw [show ((j + 1 : Nat) : Int) = (j : Int) + 1 by omega, Int.add_mul, Int.one_mul] at this
    simp only [Int.mul_one]
    omega
  refine ⟨hE, hq0, k3, by unfold ltT; simpa using hml, fun hB => ?_, fun hB => ?_⟩
  · have hj : ((t.N / (f * t.D)).toNat : Int) = t.N / (f * t.D) := by omega
    obtain ⟨i1, i2⟩ := sb_whole h hF hf (t.N / (f * t.D)).toNat (hle _ (by omega))
    have e : t.N - ((t.N / (f * t.D)).toNat : Int) * (f * t.D) = t.N % (f * t.D) := by
      rw [hj, Int.mul_comm]; omega
    rw [e] at i1 i2
    refine ⟨sbN_end B 0 _ (Nat.zero_le _) (by omega) (fun q hq => hge q (by omega)) (.inl ?_), i1⟩
    rw [i1, cmp_lt i2 hF]; simpa using hml
  · exact sbN_end B 0 B (Nat.zero_le _) (by omega) (fun q hq => hge q (by omega)) (.inr (by omega))
theorem tmk_ck {X Y : Int} (h0 : 0 ≤ X) (h1 : 1 ≤ Y) (h : tmkE X Y = 0) : ckT (tmkT X Y) = 0 ∧ ∃ g : Int, 0 < g ∧ g * (tmkT X Y).N = X ∧ g * (tmkT X Y).D = Y := by
  have hT : tmkT X Y = ⟨X / gI X Y, Y / gI X Y⟩ := by unfold tmkT; rw [if_pos h]
  have hg := gI_pos (n := X) (d := Y) (by omega)
  have gx : gI X Y ∣ X := Int.ofNat_dvd_left.2 (Nat.gcd_dvd_left _ _)
  have gy : gI X Y ∣ Y := Int.ofNat_dvd_left.2 (Nat.gcd_dvd_right _ _)
  have ex := Int.mul_ediv_cancel' gx
  have ey := Int.mul_ediv_cancel' gy
  have hx0 : 0 ≤ X / gI X Y := Int.ediv_nonneg h0 (by omega)
  have hy1 : 0 < Y / gI X Y := by
    apply Classical.byContradiction
    intro hn
    have := Int.mul_le_mul_of_nonneg_left (show Y / gI X Y ≤ 0 by omega) (Int.le_of_lt hg)
    omega
  have hone : gI (X / gI X Y) (Y / gI X Y) = 1 := gI_one fun d h2 h3 => by
    obtain ⟨a, ha⟩ := h2
    obtain ⟨b, hb⟩ := h3
    have ea := ex; rw [ha] at ea
    have eb := ey; rw [hb] at eb
    have d1 : ((Nat.gcd X.natAbs Y.natAbs * d : Nat) : Int) ∣ X := ⟨a, ea.symm.trans (by rw [Int.natCast_mul, Int.mul_assoc]; rfl)⟩
    have d2 : ((Nat.gcd X.natAbs Y.natAbs * d : Nat) : Int) ∣ Y := ⟨b, eb.symm.trans (by rw [Int.natCast_mul, Int.mul_assoc]; rfl)⟩
    have d3 := Nat.dvd_gcd (Int.ofNat_dvd_left.1 d1) (Int.ofNat_dvd_left.1 d2)
    have hgn : 0 < Nat.gcd X.natAbs Y.natAbs := by unfold gI at hg; omega
    obtain ⟨q, hq⟩ := d3
    have : d * q = 1 := Nat.eq_of_mul_eq_mul_left hgn (by rw [← Nat.mul_assoc, ← hq, Nat.mul_one])
    exact Nat.eq_one_of_mul_eq_one_right this
  have hb : ¬ (1099511627776 < X / gI X Y ∨ 1048576 < Y / gI X Y) := fun hbig => by
    unfold tmkE at h
    rw [if_neg (by omega), if_neg (by omega), if_pos hbig] at h
    exact absurd h (by decide)
  rw [hT]
  refine ⟨?_, gI X Y, hg, ex, ey⟩
  unfold ckT
  rw [if_neg (by simp only; omega), if_neg (by simp only; omega)]
/-- What one value does, by division and one after the other. -/
def StOk (F t : Tm) (B : Nat) : Prop :=
  (whE t F = 0 → 0 ≤ whQ t F ∧ ckT (whR t F) = 0 ∧ ltT (whR t F) F ∧ (whQ t F < B → sbN F t B 0 = (whQ t F).toNat ∧ sbT F t (whQ t F).toNat = whR t F) ∧ ((B : Int) ≤ whQ t F → sbN F t B 0 = B)) ∧ (¬ whE t F = 0 → sbN F t B 0 = B)
theorem tmk_mul {t : Tm} (h : ckT t = 0) {c : Int} (hc : 1 ≤ c) : tmkE (t.N * c) (t.D * c) = 0 ∧ tmkT (t.N * c) (t.D * c) = t := by
  have hb := ckT_b h
  have hg : gI (t.N * c) (t.D * c) = c := by
    unfold gI
    rw [Int.natAbs_mul, Int.natAbs_mul, Nat.gcd_mul_right, show Nat.gcd t.N.natAbs t.D.natAbs = 1 from ck_cop h]
    omega
  have n0 : 0 ≤ t.N * c := Int.mul_nonneg hb.1 (by omega)
  have d0 : 0 < t.D * c := Int.mul_pos (by omega) (by omega)
  have e1 : t.N * c / c = t.N := Int.mul_ediv_cancel _ (by omega)
  have e2 : t.D * c / c = t.D := Int.mul_ediv_cancel _ (by omega)
  have e : tmkE (t.N * c) (t.D * c) = 0 := by unfold tmkE; rw [if_neg (by omega), if_neg (by omega), hg, e1, e2, if_neg (by omega)]
  exact ⟨e, by unfold tmkT; rw [if_pos e, hg, e1, e2]⟩
theorem sb_bad {F t : Tm} (h : subV t F = tmZ) : ∀ j, 1 ≤ j → sbT F t j = tmZ
  | 0, h0 => by omega
  | 1, _ => by unfold sbT sbT; exact h
  | j + 2, _ => by
    unfold sbT
    rw [sb_bad h (j + 1) (by omega)]
    unfold subV
    rw [if_neg (by simp [firstT, ckT, tmZ])]
theorem cmp_bad (F : Tm) : cmpV tmZ F = 0 := by unfold cmpV; rw [if_neg (by simp [firstT, ckT, tmZ])]
theorem st_part {t : Tm} {c : Int} (h : ckT t = 0) (hc : 1 ≤ c) (hF : ckT ⟨1, c⟩ = 0) (hlt : t.N * c < 2 * t.D) (B : Nat) : StOk ⟨1, c⟩ t B := by
  have hb := ckT_b h
  have n0 : 0 ≤ t.N * c := Int.mul_nonneg hb.1 (by omega)
  have hf : firstT [t, ⟨1, c⟩] = 0 := by simp [firstT, h, hF]
  have hEe : whE t ⟨1, c⟩ = tmkE (t.N * c % t.D) (t.D * c) := by
    unfold whE
    rw [if_pos hf, if_neg (by simp)]
    simp only [Int.one_mul]
  by_cases h1 : t.N * c < t.D
  · have hm : t.N * c % t.D = t.N * c := Int.emod_eq_of_lt n0 h1
    have hd : t.N * c / t.D = 0 := Int.ediv_eq_zero_of_lt n0 h1
    obtain ⟨k1, k2⟩ := tmk_mul h hc
    have hE : whE t ⟨1, c⟩ = 0 := by rw [hEe, hm]; exact k1
    have hQ : whQ t ⟨1, c⟩ = 0 := by unfold whQ; rw [if_pos hE]; simp only [Int.one_mul]; exact hd
    have hR : whR t ⟨1, c⟩ = t := by unfold whR; rw [if_pos hE]; simp only [Int.one_mul, hm]; exact k2
    have hl : ltT t ⟨1, c⟩ := by unfold ltT; simp only [Int.one_mul]; exact h1
    refine ⟨fun _ => ?_, fun hn => absurd hE hn⟩
    rw [hQ, hR]
    exact ⟨by decide, h, hl, fun _ => ⟨sbN_end B 0 0 (Nat.le_refl _) (by omega) (fun q hq => by omega) (.inl ((cmpV_lt h hF).2 hl)), rfl⟩, fun hB => sbN_end B 0 B (Nat.zero_le _) (by omega) (fun q hq => by omega) (.inr (by omega))⟩
  · have hm : t.N * c % t.D = t.N * c - t.D := by
      rw [← Int.emod_eq_of_lt (a := t.N * c - t.D) (b := t.D) (by omega) (by omega), Int.sub_emod_right]
    have hd : t.N * c / t.D = 1 := by
      have e : t.N * c = (t.N * c - t.D) + t.D := by omega
      rw [e, Int.add_ediv_of_dvd_right (Int.dvd_refl _), Int.ediv_self (by omega), Int.ediv_eq_zero_of_lt (by omega) (by omega)]; rfl
    have hS : subV t ⟨1, c⟩ = tmkT (t.N * c - t.D) (t.D * c) := by unfold subV; rw [if_pos hf]; simp only [Int.one_mul]
    have hng : ¬ cmpV t ⟨1, c⟩ < 0 := by rw [cmpV_lt h hF]; unfold ltT; simp only [Int.one_mul]; exact h1
    rw [hm] at hEe
    have hcD : 0 < t.D * c := Int.mul_pos (by omega) (by omega)
    refine ⟨fun hE => ?_, fun hE => ?_⟩
    · have hk : tmkE (t.N * c - t.D) (t.D * c) = 0 := hEe ▸ hE
      have hQ : whQ t ⟨1, c⟩ = 1 := by unfold whQ; rw [if_pos hE]; simp only [Int.one_mul]; exact hd
      have hR : whR t ⟨1, c⟩ = tmkT (t.N * c - t.D) (t.D * c) := by unfold whR; rw [if_pos hE]; simp only [Int.one_mul, hm]
      have hlo : 0 ≤ t.N * c - t.D := by omega
      obtain ⟨hck, g, hg, e1, e2⟩ := tmk_ck hlo (by omega) hk
      have hl : ltT (tmkT (t.N * c - t.D) (t.D * c)) ⟨1, c⟩ := by
        unfold ltT
        simp only [Int.one_mul]
        refine Int.lt_of_mul_lt_mul_left (a := g) ?_ (Int.le_of_lt hg)
        rw [← Int.mul_assoc, e1, e2]
        exact Int.mul_lt_mul_of_pos_right (by omega) (by omega)
      have hs1 : sbT ⟨1, c⟩ t 1 = tmkT (t.N * c - t.D) (t.D * c) := by unfold sbT sbT; exact hS
      rw [hQ, hR]
      refine ⟨by decide, hck, hl, fun hB => ⟨?_, hs1⟩, fun hB => sbN_end B 0 B (Nat.zero_le _) (by omega) (fun q hq => ?_) (.inr (by omega))⟩
      · refine sbN_end B 0 1 (by omega) (by omega) (fun q hq => ?_) (.inl ?_)
        · rw [show q = 0 by omega]; exact hng
        · rw [hs1]; exact (cmpV_lt hck hF).2 hl
      · rw [show q = 0 by omega]; exact hng
    · have hz : subV t ⟨1, c⟩ = tmZ := by rw [hS]; unfold tmkT; rw [if_neg (fun e => hE (hEe.trans e))]
      refine sbN_end B 0 B (Nat.zero_le _) (by omega) (fun q hq => ?_) (.inr (by omega))
      cases q with
      | zero => exact hng
      | succ q => rw [sb_bad hz (q + 1) (by omega), cmp_bad]; decide
theorem st_all {m : Mn} {t : Tm} (hm : ckM m = 0) {k : Nat} (hk : k < 8) (h : ckT t = 0) (hl : 5 ≤ k → ltT t (fullT m (k : Int))) (B : Nat) : StOk (fullT m (1 + (k : Int))) t B := by
  have hF := (fe_of hm (show 1 ≤ 1 + (k : Int) by omega) (by omega)).ck
  obtain ⟨a, -, c, d, e⟩ := fu_of hm (show 1 ≤ 1 + (k : Int) by omega) (by omega)
  rcases Nat.lt_or_ge k 5 with h5 | h5
  · obtain ⟨a1, a2⟩ := a (by omega)
    generalize fullT m (1 + (k : Int)) = F at a1 a2 hF ⊢
    obtain ⟨f, e1⟩ := F
    simp only at a1 a2
    subst a1
    obtain ⟨w1, w2, w3, w4, w5, w6⟩ := st_whole h hF a2 B
    exact ⟨fun _ => ⟨w2, w3, w4, w5, w6⟩, fun hn => absurd w1 hn⟩
  · have hlt := hl h5
    obtain ⟨-, b2, c2, d2, -⟩ := fu_of hm (show 1 ≤ (k : Int) by omega) (by omega)
    have hk3 : k = 5 ∨ k = 6 ∨ k = 7 := by omega
    rcases hk3 with rfl | rfl | rfl
    · rw [b2 rfl] at hlt; rw [c rfl] at hF ⊢
      exact st_part h (by decide) hF (by unfold ltT at hlt; simp only at hlt; omega) B
    · rw [c2 rfl] at hlt; rw [d rfl] at hF ⊢
      exact st_part h (by decide) hF (by unfold ltT at hlt; simp only at hlt; omega) B
    · rw [d2 rfl] at hlt; rw [e rfl] at hF ⊢
      exact st_part h (by decide) hF (by unfold ltT at hlt; simp only at hlt; omega) B
theorem rf_main {m : Mn} {t : Tm} (hm : ckM m = 0) (ht : ckT t = 0) : ∀ k, k ≤ 8 → ((∀ j, j < k → rsOk m t j = true) ∧ rfP m t k = rsP m t k ∧ ckT (rsP m t k).2 = 0 ∧ (1 ≤ k → ltT (rsP m t k).2 (fullT m (k : Int)))) ∨ ((∃ j, j < k ∧ rsOk m t j = false) ∧ (rfP m t k).1.length = 401)
  | 0, _ => .inl ⟨fun j h => absurd h (Nat.not_lt_zero j), rfl, ht, fun h => by omega⟩
  | k + 1, hk => by
    rcases rf_main hm ht k (by omega) with ⟨h1, h2, h3, h4⟩ | ⟨⟨j, h1, h2⟩, h3⟩
    · have hl := rs_len k h1
      obtain ⟨s1, s2⟩ := st_all hm (show k < 8 by omega) h3 (fun h => h4 (by omega)) (401 - (rsP m t k).1.length)
      have hc : rfC m k (rfP m t k) = sbN (fullT m (1 + (k : Int))) (rsP m t k).2 (401 - (rsP m t k).1.length) 0 := by rw [h2]; rfl
      have hbad : rsOk m t k = false → sbN (fullT m (1 + (k : Int))) (rsP m t k).2 (401 - (rsP m t k).1.length) 0 = 401 - (rsP m t k).1.length → (∃ j, j < k + 1 ∧ rsOk m t j = false) ∧ (rfP m t (k + 1)).1.length = 401 := fun g1 g2 => by
        refine ⟨⟨k, by omega, g1⟩, ?_⟩
        rw [rfP_s, hc, g2, h2]
        simp only [List.length_append, List.length_replicate]; omega
      by_cases hE : whE (rsP m t k).2 (fullT m (1 + (k : Int))) = 0
      · obtain ⟨w1, w2, w3, w4, w5⟩ := s1 hE
        by_cases hQ : whQ (rsP m t k).2 (fullT m (1 + (k : Int))) ≤ 400 - ((rsP m t k).1.length : Int)
        · obtain ⟨x1, x2⟩ := w4 (by omega)
          have hok : rsOk m t k = true := by unfold rsOk; rw [decide_eq_true hE, decide_eq_true hQ]; rfl
          refine .inl ⟨fun j hj => ?_, ?_, ?_, fun _ => ?_⟩
          · rcases Nat.lt_succ_iff_lt_or_eq.1 hj with h | h
            · exact h1 j h
            · rw [h]; exact hok
          · rw [rfP_s, rsP_s, hc, x1, h2, x2]
          · rw [rsP_s]; exact w2
          · rw [rsP_s, show ((k + 1 : Nat) : Int) = 1 + (k : Int) by omega]; exact w3
        · refine .inr (hbad ?_ (w5 (by omega)))
          unfold rsOk; rw [decide_eq_false hQ]; simp
      · refine .inr (hbad ?_ (s2 hE))
        unfold rsOk; rw [decide_eq_false hE]; rfl
    · refine .inr ⟨⟨j, by omega, h2⟩, ?_⟩
      have h5 := sbN_le (fullT m (1 + (k : Int))) (rfP m t k).2 (401 - (rfP m t k).1.length) 0
      rw [rfP_s]
      simp only [List.length_append, List.length_replicate, rfC]
      omega
theorem rf_law (m : Mn) (t : Tm) : rfE m t = rstE m t ∧ rfV m t = rstV m t := by
  by_cases hb : bthE m t = 0
  · have hck := bthE_0 hb
    by_cases h0 : t.N = 0
    · have hr := rst_2 hb h0
      have e : rfE m t = 2 := by unfold rfE; rw [if_pos hb, if_pos h0]
      exact ⟨e.trans hr.1, by unfold rfV; rw [if_neg (by omega)]; exact hr.2⟩
    · rcases rf_main hck.1 hck.2 8 (Nat.le_refl _) with ⟨h1, h2, h3, h4⟩ | ⟨⟨j, h1, h2⟩, h3⟩
      · have hg := rs_good h1
        have hl := rs_len 8 h1
        by_cases hN : (rsP m t 8).2.N ≤ 0
        · have hr := rst_ok hb h0 (by rw [hg, decide_eq_true hN])
          have e : rfE m t = 0 := by unfold rfE; rw [if_pos hb, if_neg h0, h2, if_neg (by omega)]
          exact ⟨e.trans hr.1, by unfold rfV; rw [if_pos e, h2]; exact hr.2⟩
        · have hr := rst_18 hb h0 (by rw [hg, decide_eq_false hN])
          have e : rfE m t = 18 := by unfold rfE; rw [if_pos hb, if_neg h0, h2, if_pos (by omega)]
          exact ⟨e.trans hr.1, by unfold rfV; rw [if_neg (by omega)]; exact hr.2⟩
      · have hr := rst_18 hb h0 (rs_bad (by omega) h2)
        have e : rfE m t = 18 := by unfold rfE; rw [if_pos hb, if_neg h0, if_pos (by omega)]
        exact ⟨e.trans hr.1, by unfold rfV; rw [if_neg (by omega)]; exact hr.2⟩
  · have hr := rst_0 hb
    have e : rfE m t = bthE m t := by unfold rfE; rw [if_neg hb]
    exact ⟨e.trans hr.1, by unfold rfV; rw [if_neg (by omega)]; exact hr.2⟩
end Go.Rse
