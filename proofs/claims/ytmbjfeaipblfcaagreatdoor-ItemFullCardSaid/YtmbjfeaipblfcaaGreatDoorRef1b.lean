/-
  Walks: sums and products of times by definition (tactusref01).
-/
import Derived.Test.YtmbjfeaipblfcaaGreatDoorRef1
namespace Go.Rse
open Go Go.Proofs
set_option linter.unusedVariables false
set_option linter.unusedSimpArgs false
attribute [local irreducible] Pur StepA StepM Ex X ExG Fn Imp LeV LeB FnO It YStep
def rtsE (n q m c : Int) : Int := if (0 < n / gI n c ∧ 1099511627776 / (n / gI n c) < m / gI m q) ∨ 1048576 < q / gI m q * (c / gI n c) then 4 else 0
def rtsV (n q m c : Int) : Tm := if rtsE n q m c = 0 then ⟨n / gI n c * (m / gI m q), q / gI m q * (c / gI n c)⟩ else tmZ
def rmE (a b : Tm) : Int := if firstT [a, b] = 0 then rtsE a.N a.D b.N b.D else firstT [a, b]
def rmV (a b : Tm) : Tm := if firstT [a, b] = 0 then rtsV a.N a.D b.N b.D else tmZ
attribute [local irreducible] gI
theorem C_tactusref01_Add (a b : Tm) : Fn Tryz.prog 200 [tmA a, tmA b] (.tup [tmA (addV a b), iv (addE a b)]) := by
  refine Fn.go Tryz.func200 Tryz.ntmps200 (fun g w d => ?_)
  refine X.seq ?_
  refine X.region ?_
  refine Ex.ba ?_
  refine Ex.ba ?_
  refine Ex.al ?_
  refine Ex.pu ?_
  refine Ex.nil ?_
  refine X.seq ?_
  refine X.region ?_
  iterate 2 refine Ex.pu ?_
  refine Ex.ca (C_tactusref01_both a b) ?_
  refine Ex.pu ?_
  refine Ex.nil ?_
  refine X.seq ?_
  refine X.seq ?_
  refine X.region ?_
  iterate 2 refine Ex.pu ?_
  refine Ex.nil ?_
  refine X.cd rfl (fun hc1 => ?_) (fun hc1 => ?_)
  · have hE : addE a b = firstT [a, b] := by unfold addE; rw [if_neg hc1]
    have hV : addV a b = tmZ := by unfold addV; rw [if_neg hc1]
    refine X.seq ?_
    refine X.region ?_
    iterate 2 refine Ex.pu ?_
    refine Ex.mo ?_
    refine Ex.pu ?_
    refine Ex.nil ?_
    refine X.ret ?_
    refine RetQ.ret (.many (by decide) (.cons (.cellA rfl rfl rfl rfl ty51 (LeV.eq ?_)) (.cons (.tmp rfl (LeV.eq ?_)) .nil)))
    all_goals (first | (rw [hE]; done) | (rw [hV]; rfl) | (rw [hE]; rfl) | (rw [hV]; done))
  have h12 := first2 hc1
  have b1 := ckT_b h12.1
  have b2 := ckT_b h12.2
  have m1 := mulB b1.1 b1.2.1 b2.2.2.1 b2.2.2.2.1
  have m2 := mulB b2.1 b2.2.1 b1.2.2.1 b1.2.2.2.1
  have m3 := mulB b1.2.2.1 b1.2.2.2.1 b2.2.2.1 b2.2.2.2.1
  have m4 := mulP b1.2.2.2.2.1 b2.2.2.2.2.1
  have hE : addE a b = tmkE (a.N * b.D + b.N * a.D) (a.D * b.D) := by unfold addE; rw [if_pos hc1]
  have hV : addV a b = tmkT (a.N * b.D + b.N * a.D) (a.D * b.D) := by unfold addV; rw [if_pos hc1]
  refine X.skip ?_
  refine X.seq ?_
  refine X.region ?_
  iterate 16 refine Ex.pu ?_
  refine Ex.ca (C_tactusref01_of (a.N * b.D + b.N * a.D) (a.D * b.D) (by omega) (by omega) (by omega) (by omega)) ?_
  iterate 2 refine Ex.pu ?_
  refine Ex.mo ?_
  refine Ex.pu ?_
  refine Ex.nil ?_
  refine X.ret ?_
  refine RetQ.ret (.many (by decide) (.cons (.cellA rfl rfl rfl rfl ty51 (LeV.eq ?_)) (.cons (.tmp rfl (LeV.eq ?_)) .nil)))
  all_goals (first | (rw [hE]; done) | (rw [hV]; rfl) | (rw [hE]; rfl) | (rw [hV]; done))
theorem C_tactusref01_times (n q m c : Int) (n0 : 0 ≤ n) (n1 : n ≤ 1099511627776) (q0 : 1 ≤ q) (q1 : q ≤ 1048576) (m0 : 0 ≤ m) (m1 : m ≤ 1099511627776) (c0 : 1 ≤ c) (c1 : c ≤ 1099511627776) : Fn Tryz.prog 134 [iv n, iv q, iv m, iv c] (.tup [tmA (rtsV n q m c), iv (rtsE n q m c)]) := by
  have hg := gI_pos (n := n) (d := c) (by omega)
  have hh := gI_pos (n := m) (d := q) (by omega)
  have n2 := Int.ediv_nonneg n0 (Int.le_of_lt hg)
  have n3 := Int.ediv_le_self (gI n c) n0
  have c2 := Int.ediv_nonneg (show 0 ≤ c by omega) (Int.le_of_lt hg)
  have c3 := Int.ediv_le_self (gI n c) (show 0 ≤ c by omega)
  have m2 := Int.ediv_nonneg m0 (Int.le_of_lt hh)
  have m3 := Int.ediv_le_self (gI m q) m0
  have q2 := Int.ediv_nonneg (show 0 ≤ q by omega) (Int.le_of_lt hh)
  have q3 := Int.ediv_le_self (gI m q) (show 0 ≤ q by omega)
  have mB := mulB q2 (show q / gI m q ≤ 1048576 by omega) c2 (show c / gI n c ≤ 1099511627776 by omega)
  refine Fn.go Tryz.func134 Tryz.ntmps134 (fun g w d => ?_)
  refine X.seq ?_
  refine X.region ?_
  refine Ex.al ?_
  refine Ex.pu ?_
  refine Ex.nil ?_
  refine X.seq ?_
  refine X.region ?_
  iterate 2 refine Ex.pu ?_
  refine Ex.ca (C_tactusref01_gcd n c (by omega) (by omega) (by omega) (by omega)) ?_
  iterate 2 refine Ex.pu ?_
  refine Ex.ca (C_tactusref01_gcd m q (by omega) (by omega) (by omega) (by omega)) ?_
  iterate 2 refine Ex.pu ?_
  refine Ex.nil ?_
  refine X.seq ?_
  refine X.region ?_
  iterate 4 refine Ex.pu ?_
  refine Ex.nil ?_
  refine X.seq ?_
  refine X.region ?_
  iterate 4 refine Ex.pu ?_
  refine Ex.nil ?_
  refine X.seq ?_
  refine X.region ?_
  iterate 4 refine Ex.pu ?_
  refine Ex.nil ?_
  refine X.seq ?_
  refine X.region ?_
  iterate 4 refine Ex.pu ?_
  refine Ex.nil ?_
  refine X.seq ?_
  refine X.seq ?_
  refine X.region ?_
  iterate 2 refine Ex.pu ?_
  refine ExF.at 2 ?_
  refine ExF.pu ?_
  iterate 4 refine ExF.gi ?_
  iterate 2 refine ExF.pu ?_
  iterate 4 refine ExF.gi ?_
  refine ExF.done ?_
  refine Ex.pu ?_
  refine Ex.nil ?_
  refine X.cd rfl (fun hc1 => ?_) (fun hc1 => ?_)
  · have hE : rtsE n q m c = 4 := by unfold rtsE; rw [if_pos hc1]
    have hV : rtsV n q m c = tmZ := by unfold rtsV; rw [if_neg (by omega)]
    refine X.seq ?_
    refine X.region ?_
    refine Ex.pu ?_
    refine Ex.mo ?_
    refine Ex.pu ?_
    refine Ex.nil ?_
    refine X.ret ?_
    refine RetQ.ret (.many (by decide) (.cons (.cellA rfl rfl rfl rfl ty51 (LeV.eq ?_)) (.cons (.tmp rfl (LeV.eq ?_)) .nil)))
    all_goals (first | (rw [hE]; done) | (rw [hV]; rfl) | (rw [hE]; rfl) | (rw [hV]; done))
  have hE : rtsE n q m c = 0 := by unfold rtsE; rw [if_neg (fun h => by omega)]
  have hV : rtsV n q m c = ⟨n / gI n c * (m / gI m q), q / gI m q * (c / gI n c)⟩ := by unfold rtsV; rw [if_pos hE]
  have hnm : 0 ≤ n / gI n c * (m / gI m q) ∧ n / gI n c * (m / gI m q) ≤ 1099511627776 := by
    refine ⟨Int.mul_nonneg n2 m2, ?_⟩
    by_cases hz : 0 < n / gI n c
    · exact le_of_div hz (by decide) (by omega)
    · rw [show n / gI n c = 0 by omega, Int.zero_mul]; decide
  refine X.skip ?_
  refine X.seq ?_
  refine X.region ?_
  iterate 7 refine Ex.pu ?_
  refine Ex.mo ?_
  refine Ex.pu ?_
  refine Ex.nil ?_
  refine X.ret ?_
  refine RetQ.ret (.many (by decide) (.cons (.cellA rfl rfl rfl rfl ty51 (LeV.eq ?_)) (.cons (.tmp rfl (LeV.eq ?_)) .nil)))
  all_goals (first | (rw [hE]; done) | (rw [hV]; rfl) | (rw [hE]; rfl) | (rw [hV]; done))
theorem C_tactusref01_Mul (a b : Tm) : Fn Tryz.prog 72 [tmA a, tmA b] (.tup [tmA (rmV a b), iv (rmE a b)]) := by
  refine Fn.go Tryz.func72 Tryz.ntmps72 (fun g w d => ?_)
  refine X.seq ?_
  refine X.region ?_
  refine Ex.ba ?_
  refine Ex.ba ?_
  refine Ex.al ?_
  refine Ex.pu ?_
  refine Ex.nil ?_
  refine X.seq ?_
  refine X.region ?_
  iterate 2 refine Ex.pu ?_
  refine Ex.ca (C_tactusref01_both a b) ?_
  refine Ex.pu ?_
  refine Ex.nil ?_
  refine X.seq ?_
  refine X.seq ?_
  refine X.region ?_
  iterate 2 refine Ex.pu ?_
  refine Ex.nil ?_
  refine X.cd rfl (fun hc1 => ?_) (fun hc1 => ?_)
  · have hE : rmE a b = firstT [a, b] := by unfold rmE; rw [if_neg hc1]
    have hV : rmV a b = tmZ := by unfold rmV; rw [if_neg hc1]
    refine X.seq ?_
    refine X.region ?_
    iterate 2 refine Ex.pu ?_
    refine Ex.mo ?_
    refine Ex.pu ?_
    refine Ex.nil ?_
    refine X.ret ?_
    refine RetQ.ret (.many (by decide) (.cons (.cellA rfl rfl rfl rfl ty51 (LeV.eq ?_)) (.cons (.tmp rfl (LeV.eq ?_)) .nil)))
    all_goals (first | (rw [hE]; done) | (rw [hV]; rfl) | (rw [hE]; rfl) | (rw [hV]; done))
  have h12 := first2 hc1
  have b1 := ckT_b h12.1
  have b2 := ckT_b h12.2
  have hE : rmE a b = rtsE a.N a.D b.N b.D := by unfold rmE; rw [if_pos hc1]
  have hV : rmV a b = rtsV a.N a.D b.N b.D := by unfold rmV; rw [if_pos hc1]
  refine X.skip ?_
  refine X.seq ?_
  refine X.region ?_
  iterate 8 refine Ex.pu ?_
  refine Ex.ca (C_tactusref01_times a.N a.D b.N b.D (by omega) (by omega) (by omega) (by omega) (by omega) (by omega) (by omega) (by omega)) ?_
  iterate 2 refine Ex.pu ?_
  refine Ex.mo ?_
  refine Ex.pu ?_
  refine Ex.nil ?_
  refine X.ret ?_
  refine RetQ.ret (.many (by decide) (.cons (.cellA rfl rfl rfl rfl ty51 (LeV.eq ?_)) (.cons (.tmp rfl (LeV.eq ?_)) .nil)))
  all_goals (first | (rw [hE]; done) | (rw [hV]; rfl) | (rw [hE]; rfl) | (rw [hV]; done))
end Go.Rse
