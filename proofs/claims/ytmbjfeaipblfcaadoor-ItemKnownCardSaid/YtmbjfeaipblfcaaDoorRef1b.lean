/-
  Walks: sums and products of times by definition (tactusref01).
-/
import Derived.Test.YtmbjfeaipblfcaaDoorRef1
namespace Go.Rse
open Go Go.Proofs
set_option linter.unusedVariables false
set_option linter.unusedSimpArgs false
attribute [local irreducible] Pur StepA StepM Ex X ExG Fn Imp LeV LeB FnO It YStep
def rtsE (n q m c : Int) : Int := if (0 < n / gI n c ∧ 1099511627776 / (n / gI n c) < m / gI m q) ∨ 1048576 < q / gI m q * (c / gI n c) then 4 else 0
def rtsV (n q m c : Int) : Tm := if rtsE n q m c = 0 then ⟨n / gI n c * (m / gI m q), q / gI m q * (c / gI n c)⟩ else tmZ
def rmE (a b : Tm) : Int := if firstT [a, b] = 0 then rtsE a.N a.D b.N b.D else firstT [a, b]
def rmV (a b : Tm) : Tm := if firstT [a, b] = 0 then rtsV a.N a.D b.N b.D else tmZ
attribute [local irreducible] gI
theorem C_tactusref01_Add (a b : Tm) : Fn Tryd.prog 27 [tmA a, tmA b] (.tup [tmA (addV a b), iv (addE a b)]) := by
  refine Fn.go Tryd.func27 Tryd.ntmps27 (fun g w d => ?_)
  refine X.seq ?_
  refine X.region ?_
  refine Ex.ba ?_
  refine Ex.ba ?_
  refine Ex.al ?_
  refine Ex.pu ?_
  refine Ex.nil ?_
  refine X.seq ?_
  refine X.region ?_
  iterate 2 refine Ex.pu ?_
  refine Ex.ca (C_tactusref01_both a b) ?_
  refine Ex.pu ?_
  refine Ex.nil ?_
  refine X.seq ?_
  refine X.seq ?_
  refine X.region ?_
  iterate 2 refine Ex.pu ?_
  refine Ex.nil ?_
  refine X.cd rfl (fun hc1 => ?_) (fun hc1 => ?_)
  · have hE : addE a b = firstT [a, b] := by unfold addE; rw [if_neg hc1]
    have hV : addV a b = tmZ := by unfold addV; rw [if_neg hc1]
    refine X.seq ?_
    refine X.region ?_
    iterate 2 refine Ex.pu ?_
    refine Ex.mo ?_
    refine Ex.pu ?_
    refine Ex.nil ?_
    refine X.ret ?_
    refine RetQ.ret (.many (by decide) (.cons (.cellA rfl rfl rfl rfl ty26 (LeV.eq ?_)) (.cons (.tmp rfl (LeV.eq ?_)) .nil)))
    all_goals (first | (rw [hE]; done) | (rw [hV]; rfl) | (rw [hE]; rfl) | (rw [hV]; done))
  have h12 := first2 hc1
  have b1 := ckT_b h12.1
  have b2 := ckT_b h12.2
  have m1 := mulB b1.1 b1.2.1 b2.2.2.1 b2.2.2.2.1
  have m2 := mulB b2.1 b2.2.1 b1.2.2.1 b1.2.2.2.1
  have m3 := mulB b1.2.2.1 b1.2.2.2.1 b2.2.2.1 b2.2.2.2.1
  have m4 := mulP b1.2.2.2.2.1 b2.2.2.2.2.1
  have hE : addE a b = tmkE (a.N * b.D + b.N * a.D) (a.D * b.D) := by unfold addE; rw [if_pos hc1]
  have hV : addV a b = tmkT (a.N * b.D + b.N * a.D) (a.D * b.D) := by unfold addV; rw [if_pos hc1]
  refine X.skip ?_
  refine X.seq ?_
  refine X.region ?_
  iterate 16 refine Ex.pu ?_
  refine Ex.ca (C_tactusref01_of (a.N * b.D + b.N * a.D) (a.D * b.D) (by omega) (by omega) (by omega) (by omega)) ?_
  iterate 2 refine Ex.pu ?_
  refine Ex.mo ?_
  refine Ex.pu ?_
  refine Ex.nil ?_
  refine X.ret ?_
  refine RetQ.ret (.many (by decide) (.cons (.cellA rfl rfl rfl rfl ty26 (LeV.eq ?_)) (.cons (.tmp rfl (LeV.eq ?_)) .nil)))
  all_goals (first | (rw [hE]; done) | (rw [hV]; rfl) | (rw [hE]; rfl) | (rw [hV]; done))
end Go.Rse
