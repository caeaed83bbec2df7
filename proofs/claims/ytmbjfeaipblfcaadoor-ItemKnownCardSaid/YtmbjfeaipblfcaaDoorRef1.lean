/-
  Walks: times by definition (tactusref01).
-/
import Derived.Test.YtmbjfeaipblfcaaDoorSpan1
namespace Go.Rse
open Go Go.Proofs
set_option linter.unusedVariables false
set_option linter.unusedSimpArgs false
attribute [local irreducible] Pur StepA StepM Ex X ExG Fn Imp LeV LeB FnO It YStep
attribute [local irreducible] gI
theorem first_two (a b : Tm) : firstT [a, b] = if ckT a = 0 then ckT b else ckT a := by
  simp only [firstT]
  by_cases ha : ckT a = 0
  · rw [if_pos ha, if_pos ha]
    by_cases hb : ckT b = 0
    · rw [if_pos hb, hb]
    · rw [if_neg hb]
  · rw [if_neg ha, if_neg ha]
theorem C_tactusref01_gcd (a b : Int) (h0 : 0 ≤ a) (h1 : a ≤ 9223372036854775807) (h2 : 0 ≤ b) (h3 : b ≤ 9223372036854775807) : Fn Tryd.prog 41 [iv a, iv b] (iv (gI a b)) := by
  refine Fn.go Tryd.func41 Tryd.ntmps41 (fun g w d => ?_)
  refine X.seq ?_
  refine X.region ?_
  refine Ex.pu ?_
  refine Ex.nil ?_
  refine X.seq ?_
  refine X.block ?_
  refine X.lp (ι := Int × Int) (fun (p : Int × Int) => [(0, iv p.1), (1, iv p.2)]) (fun (p : Int × Int) => []) (fun (p : Int × Int) => 0 ≤ p.1 ∧ 0 ≤ p.2 ∧ p.1 ≤ 9223372036854775807 ∧ p.2 ≤ 9223372036854775807 ∧ gI p.1 p.2 = gI a b) (fun (p : Int × Int) => p.2.toNat) (a, b) (fun p hk => ?_) (hJ := by
    exact ⟨h0, h2, h1, h3, rfl⟩)
  obtain ⟨x, y⟩ := p
  obtain ⟨k1, k2, k3, k4, k5⟩ := hk
  dsimp only at *
  refine X.seq ?_
  refine X.seq ?_
  refine X.region ?_
  iterate 2 refine Ex.pu ?_
  refine Ex.nil ?_
  refine X.cd rfl (fun hc1 => ?_) (fun hc1 => ?_)
  · have e0 := Int.emod_nonneg x (show y ≠ 0 by omega)
    have e1 := Int.emod_lt_of_pos x hc1
    refine X.skip ?_
    refine X.block ?_
    refine X.seq ?_
    refine X.region ?_
    iterate 4 refine Ex.pu ?_
    refine Ex.nil ?_
    refine X.seq ?_
    refine X.region ?_
    iterate 2 refine Ex.pu ?_
    refine Ex.nil ?_
    refine X.region ?_
    iterate 2 refine Ex.pu ?_
    refine Ex.nil ?_
    refine X.bk ((y, x % y)) (hJ := by
      exact ⟨by omega, e0, by dsimp only; omega, by dsimp only; omega, by rw [← k5]; exact gI_step k1 hc1⟩)
  · have hy0 : y = 0 := by omega
    subst hy0
    refine X.exit ?_
    refine X.seq ?_
    refine X.region ?_
    iterate 2 refine Ex.pu ?_
    refine Ex.nil ?_
    refine X.ret ?_
    refine RetQ.ret (.one (.tmp rfl (LeV.eq ?_)))
    all_goals (rw [← k5, gI_zero k1])
theorem C_tactusref01_Check (t : Tm) : Fn Tryd.prog 26 [tmA t] (iv (ckT t)) := by
  refine Fn.go Tryd.func26 Tryd.ntmps26 (fun g w d => ?_)
  refine X.seq ?_
  refine X.region ?_
  refine Ex.ba ?_
  refine Ex.pu ?_
  refine Ex.nil ?_
  refine X.seq ?_
  refine X.seq ?_
  refine X.region ?_
  iterate 3 refine Ex.pu ?_
  refine ExF.at 3 ?_
  refine ExF.pu ?_
  iterate 3 refine ExF.gi ?_
  iterate 2 refine ExF.pu ?_
  iterate 3 refine ExF.gi ?_
  iterate 2 refine ExF.pu ?_
  iterate 3 refine ExF.gi ?_
  refine ExF.done ?_
  refine Ex.pu ?_
  refine Ex.nil ?_
  refine X.cd rfl (fun hc1 => ?_) (fun hc1 => ?_)
  · refine X.seq ?_
    refine X.region ?_
    refine Ex.pu ?_
    refine Ex.nil ?_
    refine X.ret ?_
    refine RetQ.ret (.one (.tmp rfl (LeV.eq ?_)))
    all_goals (congr 1; unfold ckT; rw [if_pos (by omega)])
  have hg := gI_pos (n := t.N) (d := t.D) (by omega)
  refine X.skip ?_
  refine X.seq ?_
  refine X.seq ?_
  refine X.region ?_
  iterate 4 refine Ex.pu ?_
  refine Ex.ca (C_tactusref01_gcd t.N t.D (by omega) (by omega) (by omega) (by omega)) ?_
  refine Ex.pu ?_
  refine Ex.nil ?_
  refine X.cd rfl (fun hc2 => ?_) (fun hc2 => ?_)
  · refine X.seq ?_
    refine X.region ?_
    refine Ex.pu ?_
    refine Ex.nil ?_
    refine X.ret ?_
    refine RetQ.ret (.one (.tmp rfl (LeV.eq ?_)))
    all_goals (congr 1; unfold ckT; rw [if_neg (by omega), if_pos (by omega)])
  refine X.skip ?_
  refine X.seq ?_
  refine X.region ?_
  refine Ex.pu ?_
  refine Ex.nil ?_
  refine X.ret ?_
  refine RetQ.ret (.one (.tmp rfl (LeV.eq ?_)))
  all_goals (congr 1; unfold ckT; rw [if_neg (by omega), if_neg (by omega)])
theorem C_tactusref01_of (n q : Int) (h0 : 0 ≤ n) (h1 : n ≤ 9223372036854775807) (h2 : 1 ≤ q) (h3 : q ≤ 9223372036854775807) : Fn Tryd.prog 43 [iv n, iv q] (.tup [tmA (tmkT n q), iv (tmkE n q)]) := by
  have hg := gI_pos (n := n) (d := q) (by omega)
  refine Fn.go Tryd.func43 Tryd.ntmps43 (fun g w d => ?_)
  refine X.seq ?_
  refine X.region ?_
  refine Ex.al ?_
  refine Ex.pu ?_
  refine Ex.nil ?_
  refine X.seq ?_
  refine X.region ?_
  iterate 2 refine Ex.pu ?_
  refine Ex.ca (C_tactusref01_gcd n q (by omega) (by omega) (by omega) (by omega)) ?_
  refine Ex.pu ?_
  refine Ex.nil ?_
  refine X.seq ?_
  refine X.region ?_
  iterate 4 refine Ex.pu ?_
  refine Ex.nil ?_
  refine X.seq ?_
  refine X.region ?_
  iterate 4 refine Ex.pu ?_
  refine Ex.nil ?_
  refine X.seq ?_
  refine X.seq ?_
  refine X.region ?_
  iterate 2 refine Ex.pu ?_
  refine ExF.at 2 ?_
  refine ExF.pu ?_
  iterate 2 refine ExF.gi ?_
  refine ExF.done ?_
  refine Ex.pu ?_
  refine Ex.nil ?_
  refine X.cd rfl (fun hc1 => ?_) (fun hc1 => ?_)
  · have hE : tmkE n q = 4 := by unfold tmkE; rw [if_neg (by omega), if_neg (by omega), if_pos hc1]
    have hV : tmkT n q = tmZ := by unfold tmkT; rw [if_neg (by omega)]
    refine X.seq ?_
    refine X.region ?_
    refine Ex.pu ?_
    refine Ex.mo ?_
    refine Ex.pu ?_
    refine Ex.nil ?_
    refine X.ret ?_
    refine RetQ.ret (.many (by decide) (.cons (.cellA rfl rfl rfl rfl ty26 (LeV.eq ?_)) (.cons (.tmp rfl (LeV.eq ?_)) .nil)))
    all_goals (first | (rw [hE]; done) | (rw [hV]; rfl) | (rw [hE]; rfl) | (rw [hV]; done))
  have hE : tmkE n q = 0 := by unfold tmkE; rw [if_neg (by omega), if_neg (by omega), if_neg (fun h => by omega)]
  have hV : tmkT n q = ⟨n / gI n q, q / gI n q⟩ := by unfold tmkT; rw [if_pos hE]
  refine X.skip ?_
  refine X.seq ?_
  refine X.region ?_
  iterate 3 refine Ex.pu ?_
  refine Ex.mo ?_
  refine Ex.pu ?_
  refine Ex.nil ?_
  refine X.ret ?_
  refine RetQ.ret (.many (by decide) (.cons (.cellA rfl rfl rfl rfl ty26 (LeV.eq ?_)) (.cons (.tmp rfl (LeV.eq ?_)) .nil)))
  all_goals (first | (rw [hE]; done) | (rw [hV]; rfl) | (rw [hE]; rfl) | (rw [hV]; done))
theorem C_tactusref01_both (a b : Tm) : Fn Tryd.prog 42 [tmA a, tmA b] (iv (firstT [a, b])) := by
  refine Fn.go Tryd.func42 Tryd.ntmps42 (fun g w d => ?_)
  refine X.seq ?_
  refine X.region ?_
  refine Ex.ba ?_
  refine Ex.ba ?_
  refine Ex.pu ?_
  refine Ex.nil ?_
  refine X.seq ?_
  refine X.region ?_
  refine Ex.pu ?_
  refine Ex.ca (C_tactusref01_Check a) ?_
  refine Ex.pu ?_
  refine Ex.nil ?_
  refine X.seq ?_
  refine X.seq ?_
  refine X.region ?_
  iterate 2 refine Ex.pu ?_
  refine Ex.nil ?_
  refine X.cd rfl (fun hc1 => ?_) (fun hc1 => ?_)
  · refine X.seq ?_
    refine X.region ?_
    iterate 2 refine Ex.pu ?_
    refine Ex.nil ?_
    refine X.ret ?_
    refine RetQ.ret (.one (.tmp rfl (LeV.eq ?_)))
    all_goals (congr 1; rw [first_two, if_neg hc1])
  refine X.skip ?_
  refine X.seq ?_
  refine X.region ?_
  refine Ex.pu ?_
  refine Ex.ca (C_tactusref01_Check b) ?_
  refine Ex.pu ?_
  refine Ex.nil ?_
  refine X.ret ?_
  refine RetQ.ret (.one (.tmp rfl (LeV.eq ?_)))
  all_goals (congr 1; rw [first_two, if_pos hc1])
end Go.Rse
