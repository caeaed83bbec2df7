/-
  Walks: times by definition (tactusref01).
-/
import Derived.Test.YtfiiobachmglpaaGreatDoorDJTime
import Derived.Test.YtfiiobachmglpaaGreatDoorDMens2
import Derived.Test.YtfiiobachmglpaaGreatDoorDLogB
set_option linter.unusedSimpArgs false
set_option linter.unusedVariables false
namespace Go.Rse
open Go Go.Proofs
attribute [local irreducible] Pur StepA StepM Ex X Fn Imp LeV LeB FnO It YStep
attribute [local irreducible] gI
theorem zgN (a b : Tm) : firstT [a, b] = if ckT a = 0 then ckT b else ckT a := by
 simp only [firstT]
 by_cases ha : ckT a = 0
 ·rw [if_pos ha, if_pos ha]
  by_cases hb : ckT b = 0
  ·rw [if_pos hb, hb]
  ·rw [if_neg hb]
 ·rw [if_neg ha, if_neg ha]
theorem zaM (a b : Int) (h0 : 0 <= a) (h1 : a <= 9223372036854775807) (h2 : 0 <= b) (h3 : b <= 9223372036854775807) : Fn Tryz.prog 214 [iv a, iv b] (iv (gI a b)) := by
 refine Fn.go Tryz.func214 Tryz.ntmps214 (fun g w d => ?_)
 apply X.sr
 refine Ex.pn ?_
 apply X.seq
 apply X.block
 refine X.lp (ι := Int × Int) (fun (p : Int × Int) => [(0, iv p.1), (1, iv p.2)]) (fun (p : Int × Int) => []) (fun (p : Int × Int) => 0 <= p.1 /\ 0 <= p.2 /\ p.1 <= 9223372036854775807 /\ p.2 <= 9223372036854775807 /\ gI p.1 p.2 = gI a b) (fun (p : Int × Int) => p.2.toNat) (a, b) (fun p hk => ?_) (hJ := by
  exact ⟨h0, h2, h1, h3, rfl⟩)
 obtain ⟨x, y⟩ := p
 obtain ⟨k1, k2, k3, k4, k5⟩ := hk
 dsimp only at *
 apply X.seq
 apply X.sr
 refine Ex.pu ?_
 refine Ex.pn ?_
 refine X.cd rfl ?_ ?_<;>intro hc1
 ·have e0 := Int.emod_nonneg x (show y ≠ 0 by omega)
  have e1 := Int.emod_lt_of_pos x hc1
  apply X.skip
  apply X.block
  apply X.sr
  iterate 4 refine Ex.pu ?_
  apply Ex.ns
  refine Ex.pu ?_
  refine Ex.pn ?_
  apply X.region
  refine Ex.pu ?_
  refine Ex.pn ?_
  refine X.bk ((y, x % y)) (hJ := by
   exact ⟨by omega, e0, by dsimp only; omega, by dsimp only; omega, by rw [← k5]; exact zhB k1 hc1⟩)
 ·have hy0 : y = 0 := by omega
  subst hy0
  apply X.exit
  apply X.sr
  refine Ex.pu ?_
  refine Ex.pn ?_
  refine X.ret ?_
  refine RetQ.r1 ?_
  all_goals (rw [← k5, zhA k1])
theorem zaU (t : Tm) : Fn Tryz.prog 138 [tmA t] (iv (ckT t)) := by
 refine Fn.go Tryz.func138 Tryz.ntmps138 (fun g w d => ?_)
 apply X.sr
 refine Ex.ba ?_
 refine Ex.pn ?_
 apply X.seq
 apply X.sr
 iterate 3 refine Ex.pu ?_
 refine ExF.at 3 ?_
 refine ExF.pu ?_
 iterate 3 refine ExF.gi ?_
 iterate 2 refine ExF.pu ?_
 iterate 3 refine ExF.gi ?_
 iterate 2 refine ExF.pu ?_
 iterate 3 refine ExF.gi ?_
 refine ExF.done ?_
 refine Ex.pn ?_
 refine X.cd rfl ?_ ?_<;>intro hc1
 ·apply X.sr
  refine Ex.pn ?_
  refine X.ret ?_
  refine RetQ.r1 ?_
  all_goals (congr 1; unfold ckT; rw [if_pos (by omega)])
 have hg := zcL (n := t.N) (d := t.D) (by omega)
 apply X.skip
 apply X.seq
 apply X.sr
 iterate 4 refine Ex.pu ?_
 refine Ex.ca (zaM t.N t.D (by omega) (by omega) (by omega) (by omega)) ?_
 refine Ex.pn ?_
 refine X.cd rfl ?_ ?_<;>intro hc2
 ·apply X.sr
  refine Ex.pn ?_
  refine X.ret ?_
  refine RetQ.r1 ?_
  all_goals (congr 1; unfold ckT; rw [if_neg (by omega), if_pos (by omega)])
 apply X.skip
 apply X.sr
 refine Ex.pn ?_
 refine X.ret ?_
 refine RetQ.r1 ?_
 all_goals (congr 1; unfold ckT; rw [if_neg (by omega), if_neg (by omega)])
theorem zch (n q : Int) (h0 : 0 <= n) (h1 : n <= 9223372036854775807) (h2 : 1 <= q) (h3 : q <= 9223372036854775807) : Fn Tryz.prog 255 [iv n, iv q] (.tup [tmA (tmkT n q), iv (tmkE n q)]) := by
 have hg := zcL (n := n) (d := q) (by omega)
 refine Fn.go Tryz.func255 Tryz.ntmps255 (fun g w d => ?_)
 apply X.sr
 refine Ex.al ?_
 refine Ex.pu ?_
 apply Ex.ns
 iterate 2 refine Ex.pu ?_
 refine Ex.ca (zaM n q (by omega) (by omega) (by omega) (by omega)) ?_
 refine Ex.pu ?_
 apply Ex.ns
 iterate 4 refine Ex.pu ?_
 apply Ex.ns
 iterate 3 refine Ex.pu ?_
 refine Ex.pn ?_
 apply X.seq
 apply X.sr
 iterate 2 refine Ex.pu ?_
 refine ExF.at 2 ?_
 refine ExF.pu ?_
 iterate 2 refine ExF.gi ?_
 refine ExF.done ?_
 refine Ex.pn ?_
 refine X.cd rfl ?_ ?_<;>intro hc1
 ·have hE : tmkE n q = 4 := by unfold tmkE; rw [if_neg (by omega), if_neg (by omega), if_pos hc1]
  have hV : tmkT n q = tmZ := by unfold tmkT; rw [if_neg (by omega)]
  apply X.sr
  refine Ex.pu ?_
  refine Ex.mo ?_
  refine Ex.pn ?_
  refine X.ret ?_
  refine RetQ.rc ty60 ?_ ?_
  all_goals (first | (rw [hE]; done) | (rw [hV]; rfl) | (rw [hE]; rfl) | (rw [hV]; done))
 have hE : tmkE n q = 0 := by unfold tmkE; rw [if_neg (by omega), if_neg (by omega), if_neg (fun h => by omega)]
 have hV : tmkT n q = ⟨n / gI n q, q / gI n q⟩ := by unfold tmkT; rw [if_pos hE]
 apply X.skip
 apply X.sr
 iterate 3 refine Ex.pu ?_
 refine Ex.mo ?_
 refine Ex.pn ?_
 refine X.ret ?_
 refine RetQ.rc ty60 ?_ ?_
 all_goals (first | (rw [hE]; done) | (rw [hV]; rfl) | (rw [hE]; rfl) | (rw [hV]; done))
theorem zaI (a b : Tm) : Fn Tryz.prog 225 [tmA a, tmA b] (iv (firstT [a, b])) := by
 refine Fn.go Tryz.func225 Tryz.ntmps225 (fun g w d => ?_)
 apply X.sr
 iterate 2 refine Ex.ba ?_
 refine Ex.pu ?_
 apply Ex.ns
 refine Ex.pu ?_
 refine Ex.ca (zaU a) ?_
 refine Ex.pn ?_
 apply X.seq
 apply X.sr
 refine Ex.pu ?_
 refine Ex.pn ?_
 refine X.cd rfl ?_ ?_<;>intro hc1
 ·apply X.sr
  refine Ex.pu ?_
  refine Ex.pn ?_
  refine X.ret ?_
  refine RetQ.r1 ?_
  all_goals (congr 1; rw [zgN, if_neg hc1])
 apply X.skip
 apply X.sr
 refine Ex.pu ?_
 refine Ex.ca (zaU b) ?_
 refine Ex.pn ?_
 refine X.ret ?_
 refine RetQ.r1 ?_
 all_goals (congr 1; rw [zgN, if_pos hc1])
theorem zaN (a b : Tm) : Fn Tryz.prog 210 [tmA a, tmA b] (.tup [tmA (subV a b), iv (subE a b)]) := by
 refine Fn.go Tryz.func210 Tryz.ntmps210 (fun g w d => ?_)
 apply X.sr
 iterate 2 refine Ex.ba ?_
 refine Ex.al ?_
 refine Ex.pu ?_
 apply Ex.ns
 iterate 2 refine Ex.pu ?_
 refine Ex.ca (zaI a b) ?_
 refine Ex.pn ?_
 apply X.seq
 apply X.sr
 refine Ex.pu ?_
 refine Ex.pn ?_
 refine X.cd rfl ?_ ?_<;>intro hc1
 ·have hE : subE a b = firstT [a, b] := by unfold subE; rw [if_neg hc1]
  have hV : subV a b = tmZ := by unfold subV; rw [if_neg hc1]
  apply X.sr
  iterate 2 refine Ex.pu ?_
  refine Ex.mo ?_
  refine Ex.pn ?_
  refine X.ret ?_
  refine RetQ.rc ty60 ?_ ?_
  all_goals (first | (rw [hE]; done) | (rw [hV]; rfl) | (rw [hE]; rfl) | (rw [hV]; done))
 have h12 := first2 hc1
 have b1 := zbH h12.1
 have b2 := zbH h12.2
 have m1 := mulB b1.1 b1.2.1 b2.2.2.1 b2.2.2.2.1
 have m2 := mulB b2.1 b2.2.1 b1.2.2.1 b1.2.2.2.1
 have m3 := mulB b1.2.2.1 b1.2.2.2.1 b2.2.2.1 b2.2.2.2.1
 have m4 := mulP b1.2.2.2.2.1 b2.2.2.2.2.1
 have hE : subE a b = tmkE (a.N * b.D - b.N * a.D) (a.D * b.D) := by unfold subE; rw [if_pos hc1]
 have hV : subV a b = tmkT (a.N * b.D - b.N * a.D) (a.D * b.D) := by unfold subV; rw [if_pos hc1]
 apply X.skip
 apply X.seq
 apply X.sr
 iterate 10 refine Ex.pu ?_
 refine Ex.pn ?_
 refine X.cd rfl ?_ ?_<;>intro hc2
 ·have h2 : tmkE (a.N * b.D - b.N * a.D) (a.D * b.D) = 2 := by unfold tmkE; rw [if_pos (by omega)]
  have h3 : tmkT (a.N * b.D - b.N * a.D) (a.D * b.D) = tmZ := by unfold tmkT; rw [if_neg (by omega)]
  rw [h2] at hE
  rw [h3] at hV
  apply X.sr
  refine Ex.pu ?_
  refine Ex.mo ?_
  refine Ex.pn ?_
  refine X.ret ?_
  refine RetQ.rc ty60 ?_ ?_
  all_goals (first | (rw [hE]; done) | (rw [hV]; rfl) | (rw [hE]; rfl) | (rw [hV]; done))
 apply X.skip
 apply X.sr
 iterate 16 refine Ex.pu ?_
 refine Ex.ca (zch (a.N * b.D - b.N * a.D) (a.D * b.D) (by omega) (by omega) (by omega) (by omega)) ?_
 iterate 2 refine Ex.pu ?_
 refine Ex.mo ?_
 refine Ex.pn ?_
 refine X.ret ?_
 refine RetQ.rc ty60 ?_ ?_
 all_goals (first | (rw [hE]; done) | (rw [hV]; rfl) | (rw [hE]; rfl) | (rw [hV]; done))
theorem zcJ (a b : Tm) : Fn Tryz.prog 278 [tmA a, tmA b] (.tup [iv (cmpV a b), iv (firstT [a, b])]) := by
 refine Fn.go Tryz.func278 Tryz.ntmps278 (fun g w d => ?_)
 apply X.sr
 iterate 2 refine Ex.ba ?_
 iterate 2 refine Ex.pu ?_
 apply Ex.ns
 iterate 2 refine Ex.pu ?_
 refine Ex.ca (zaI a b) ?_
 refine Ex.pn ?_
 apply X.seq
 apply X.sr
 refine Ex.pu ?_
 refine Ex.pn ?_
 refine X.cd rfl ?_ ?_<;>intro hc1
 ·have hV : cmpV a b = 0 := by unfold cmpV; rw [if_neg hc1]
  apply X.sr
  iterate 2 refine Ex.pu ?_
  refine Ex.pn ?_
  refine X.ret ?_
  refine RetQ.r2 ?_ ?_
  all_goals (first | (rw [hV]; done) | rfl | (rw [hc1]; done))
 have h12 := first2 hc1
 have b1 := zbH h12.1
 have b2 := zbH h12.2
 have m1 := mulB b1.1 b1.2.1 b2.2.2.1 b2.2.2.2.1
 have m2 := mulB b2.1 b2.2.1 b1.2.2.1 b1.2.2.2.1
 have m3 := mulB b1.2.2.1 b1.2.2.2.1 b2.2.2.1 b2.2.2.2.1
 have m4 := mulP b1.2.2.2.2.1 b2.2.2.2.2.1
 apply X.skip
 apply X.seq
 refine X.dw [7,8,15,16,17,18,19,20,21,22,23,24] [0,1,0,4,15,0,32,0,128,480,31,2047] mo ?_
 iterate 12 refine ChM.pu ?_
 refine ChM.tl ?_
 apply Ex.nil
 apply X.seq
 apply X.block
 apply X.sr
 iterate 3 refine Ex.pu ?_
 refine Ex.pn ?_
 refine X.cd rfl ?_ ?_<;>intro hc2
 ·have hV : cmpV a b = -1 := by unfold cmpV; rw [if_pos hc1, if_pos (by omega)]
  apply X.sr
  refine Ex.pu ?_
  refine Ex.pn ?_
  refine X.ret ?_
  refine RetQ.r2 ?_ ?_
  all_goals (first | (rw [hV]; done) | rfl | (rw [hc1]; done))
 apply X.sr
 iterate 3 refine Ex.pu ?_
 refine Ex.pn ?_
 refine X.cd rfl ?_ ?_<;>intro hc3
 ·have hV : cmpV a b = 1 := by unfold cmpV; rw [if_pos hc1, if_neg (by omega), if_pos (by omega)]
  apply X.sr
  refine Ex.pu ?_
  refine Ex.pn ?_
  refine X.ret ?_
  refine RetQ.r2 ?_ ?_
  all_goals (first | (rw [hV]; done) | rfl | (rw [hc1]; done))
 have hV : cmpV a b = 0 := by unfold cmpV; rw [if_pos hc1, if_neg (by omega), if_neg (by omega)]
 apply X.skip
 apply X.sr
 refine Ex.pu ?_
 refine Ex.pn ?_
 refine X.ret ?_
 refine RetQ.r2 ?_ ?_
 all_goals (first | (rw [hV]; done) | rfl | (rw [hc1]; done))
end Go.Rse
namespace Go.Rse
open Go Go.Proofs
attribute [local irreducible] Pur StepA StepM Ex X Fn Imp LeV LeB FnO It YStep
theorem Mn.ok_L (m : Mn) : m.Ok ↔ ∀ v ∈ mnL m, two3 v := by simp [Mn.Ok, mnL]
theorem zpA {m : Mn} {w : Int} (h : 4 < w) : m.p w = 2 := by
 unfold Mn.p; rw [if_neg (by omega), if_neg (by omega), if_neg (by omega), if_neg (by omega)]
theorem zml {m : Mn} {v : Int} (h : ckMV m v = 0) : 1 <= v /\ v <= 8 := by
 unfold ckMV at h
 split at h
 ·split at h
  ·assumption
  ·omega
 ·omega
theorem zaV (m : Mn) : Fn Tryz.prog 136 [mnA m] (iv (ckM m)) := by
 refine Fn.go Tryz.func136 Tryz.ntmps136 (fun g w d => ?_)
 apply X.sr
 refine Ex.ba ?_
 refine Ex.pu ?_
 apply Ex.ns
 iterate 8 refine Ex.pu ?_
 refine Ex.bs intE [_, _, _, _] ?_
 refine Ex.pn ?_
 iterate 2 apply X.seq
 refine X.imp (Imp.freeze (k := 13) rfl) ?_
 apply X.region
 refine Ex.pn ?_
 apply X.block
 refine X.lp (ι := Nat) (fun (k : Nat) => [(3, intsA (mnL m)), (4, iv (k : Int))]) (fun (k : Nat) => []) (fun (k : Nat) => k <= 4 /\ ∀ i v, i < k -> (mnL m)[i]? = some v -> two3 v) (fun (k : Nat) => 4 - k) 0 (fun k hk => ?_) (hJ := by
  exact ⟨by omega, fun i v h => absurd h (Nat.not_lt_zero i)⟩)
 obtain ⟨hk1, hk2⟩ := hk
 have hl4 : (mnL m).length = 4 := rfl
 apply X.seq
 apply X.sr
 iterate 3 refine Ex.pu ?_
 refine Ex.pn ?_
 refine X.cd rfl ?_ ?_<;>intro hc1
 ·obtain ⟨v, hv⟩ : ∃ v, (mnL m)[k]? = some v := ⟨_, L.gg (by omega)⟩
  have hv2 : (mnL m)[(k : Int).toNat]? = some v := by simpa using hv
  apply X.skip
  apply X.seq
  apply X.block
  apply X.sr
  iterate 5 refine Ex.pu ?_
  refine ExF.at 5 ?_
  refine ExF.pu ?_
  iterate 5 refine ExF.gi ?_
  refine ExF.done ?_
  refine Ex.pn ?_
  refine X.cd rfl ?_ ?_<;>intro hc2
  ·apply X.sr
   refine Ex.pn ?_
   refine X.ret ?_
   refine RetQ.r1 ?_
   all_goals (congr 1; unfold ckM; rw [if_neg (fun h => by have := (m.ok_L.1 h) v (List.mem_of_getElem? hv); unfold two3 at this; omega)])
  apply X.skip
  apply X.region
  iterate 2 refine Ex.pu ?_
  refine Ex.pn ?_
  refine X.bk (k + 1) (hJ := by
   refine ⟨by omega, fun i u hi hu => ?_⟩
   rcases Nat.lt_succ_iff_lt_or_eq.1 hi with h | h
   ·exact hk2 i u h hu
   ·subst h; rw [hv] at hu; injection hu with hu; subst hu; unfold two3; omega)
 ·apply X.exit
  apply X.sr
  refine Ex.pn ?_
  refine X.ret ?_
  refine RetQ.r1 ?_
  all_goals (congr 1; unfold ckM; rw [if_pos (m.ok_L.2 fun v hv => by obtain ⟨i, hi⟩ := List.mem_iff_getElem?.1 hv; exact hk2 i v (by have := (List.getElem?_eq_some_iff.1 hi).1; omega) hi)])
theorem zbF (m : Mn) (v : Int) : Fn Tryz.prog 137 [mnA m, iv v] (iv (m.p v)) := by
 refine Fn.go Tryz.func137 Tryz.ntmps137 (fun g w d => ?_)
 apply X.sr
 refine Ex.ba ?_
 refine Ex.pn ?_
 apply X.seq
 apply X.sr
 refine Ex.pn ?_
 apply X.block
 apply X.sr
 refine Ex.pu ?_
 refine Ex.pn ?_
 refine X.cd rfl ?_ ?_<;>intro hc1
 ·apply X.sr
  iterate 2 refine Ex.pu ?_
  refine Ex.pn ?_
  refine X.ret ?_
  refine RetQ.r1 ?_
  all_goals (congr 1; unfold Mn.p; simp [*])
 apply X.sr
 refine Ex.pu ?_
 refine Ex.pn ?_
 refine X.cd rfl ?_ ?_<;>intro hc2
 ·apply X.sr
  iterate 2 refine Ex.pu ?_
  refine Ex.pn ?_
  refine X.ret ?_
  refine RetQ.r1 ?_
  all_goals (congr 1; unfold Mn.p; simp [*])
 apply X.sr
 refine Ex.pu ?_
 refine Ex.pn ?_
 refine X.cd rfl ?_ ?_<;>intro hc3
 ·apply X.sr
  iterate 2 refine Ex.pu ?_
  refine Ex.pn ?_
  refine X.ret ?_
  refine RetQ.r1 ?_
  all_goals (congr 1; unfold Mn.p; simp [*])
 apply X.sr
 refine Ex.pu ?_
 refine Ex.pn ?_
 refine X.cd rfl ?_ ?_<;>intro hc4
 ·apply X.sr
  iterate 2 refine Ex.pu ?_
  refine Ex.pn ?_
  refine X.ret ?_
  refine RetQ.r1 ?_
  all_goals (congr 1; unfold Mn.p; simp [*])
 apply X.skip
 apply X.sr
 refine Ex.pn ?_
 refine X.ret ?_
 refine RetQ.r1 ?_
 all_goals (congr 1; unfold Mn.p; simp [*])
theorem zds (m : Mn) (v : Int) : Fn Tryz.prog 217 [mnA m, iv v] (iv (ckMV m v)) := by
 refine Fn.go Tryz.func217 Tryz.ntmps217 (fun g w d => ?_)
 apply X.sr
 refine Ex.ba ?_
 refine Ex.pu ?_
 apply Ex.ns
 refine Ex.pu ?_
 refine Ex.ca (zaV m) ?_
 refine Ex.pn ?_
 apply X.seq
 apply X.sr
 refine Ex.pu ?_
 refine Ex.pn ?_
 refine X.cd rfl ?_ ?_<;>intro hc1
 ·apply X.sr
  refine Ex.pu ?_
  refine Ex.pn ?_
  refine X.ret ?_
  refine RetQ.r1 ?_
  all_goals (by_cases hm : m.Ok <;> simp_all [ckM, ckMV] <;> omega)
 apply X.skip
 apply X.seq
 apply X.sr
 iterate 2 refine Ex.pu ?_
 refine ExF.at 2 ?_
 refine ExF.pu ?_
 iterate 2 refine ExF.gi ?_
 refine ExF.done ?_
 refine Ex.pn ?_
 refine X.cd rfl ?_ ?_<;>intro hc2
 ·apply X.sr
  refine Ex.pn ?_
  refine X.ret ?_
  refine RetQ.r1 ?_
  all_goals (by_cases hm : m.Ok <;> simp_all [ckM, ckMV] <;> omega)
 apply X.skip
 apply X.sr
 refine Ex.pn ?_
 refine X.ret ?_
 refine RetQ.r1 ?_
 all_goals (by_cases hm : m.Ok <;> simp_all [ckM, ckMV] <;> omega)
end Go.Rse
namespace Go.Rse
open Go Go.Proofs
attribute [local irreducible] Pur StepA StepM Ex X Fn Imp LeV LeB FnO It YStep
def prodF (m : Mn) (v : Int) : Nat -> Int
 | 0 => 1
 | n + 1 => prodF m v n * m.p (v + n)
def dbl : Nat -> Int
 | 0 => 1
 | n + 1 => dbl n * 2
def fullT (m : Mn) (v : Int) : Tm := ⟨prodF m v (5 - v).toNat, dbl (v - 5).toNat⟩
theorem zg2 {m : Mn} (h : ckM m = 0) (v : Int) (h1 : 1 <= v) : m.p v = 2 \/ m.p v = 3 := by
 rcases Int.lt_or_le 4 v with h4 | h4
 ·exact .inl (zpA h4)
 ·have ho : m.Ok := by
   unfold ckM at h; split at h
   ·assumption
   ·simp at h
  exact m.ok_iff.1 ho v h1 h4
def pw3 : Nat -> Int
 | 0 => 1
 | n + 1 => pw3 n * 3
theorem zg3 {m : Mn} (h : ckM m = 0) {v : Int} (h1 : 1 <= v) : ∀ n, 1 <= prodF m v n /\ prodF m v n <= pw3 n
 | 0 => ⟨Int.le_refl _, Int.le_refl _⟩
 | n + 1 => by
  obtain ⟨a, b⟩ := zg3 h h1 n
  simp only [prodF, pw3]
  rcases zg2 h (v + n) (by omega) with e | e <;> rw [e] <;> omega
theorem zm4 : ∀ n, n <= 4 -> pw3 n <= 81
 | 0, _ => by decide
 | 1, _ => by decide
 | 2, _ => by decide
 | 3, _ => by decide
 | 4, _ => by decide
 | n + 5, h => by omega
theorem zm5 : ∀ n, n <= 3 -> 1 <= dbl n /\ dbl n <= 8
 | 0, _ => by decide
 | 1, _ => by decide
 | 2, _ => by decide
 | 3, _ => by decide
 | n + 4, h => by omega
theorem zkQ {m : Mn} {v : Int} (h : ckMV m v = 0) : ckM m = 0 /\ 1 <= v /\ v <= 8 := by
 have h2 := zml h
 refine ⟨?_, h2⟩
 unfold ckMV at h; unfold ckM
 split at h
 ·rw [if_pos (by assumption)]
 ·omega
def perfK (m : Mn) (j : Nat) : List Int := (([4, 3, 2, 1] : List Int).take j).filter fun v => decide (m.p v = 3)
theorem ziJ (m : Mn) (j : Nat) : (perfK m j).length <= 4 := by
 unfold perfK
 refine Nat.le_trans (List.length_filter_le _ _) ?_
 simp; omega
theorem zgj (j : Nat) (h : j < 4) : ([4, 3, 2, 1] : List Int)[j]? = some (4 - (j : Int)) := by
 have : j = 0 \/ j = 1 \/ j = 2 \/ j = 3 := by omega
 rcases this with rfl | rfl | rfl | rfl <;> rfl
theorem ziK {m : Mn} {j : Nat} (h : j < 4) (hp : m.p (4 - (j : Int)) = 3) : perfK m j ++ [4 - (j : Int)] = perfK m (j + 1) := by
 unfold perfK
 rw [List.take_add_one, zgj j h, List.filter_append]; simp [hp]
theorem zkc {m : Mn} {j : Nat} (h : j < 4) (hp : ¬ m.p (4 - (j : Int)) = 3) : perfK m j = perfK m (j + 1) := by
 unfold perfK
 rw [List.take_add_one, zgj j h, List.filter_append]; simp [hp]
theorem ziL (m : Mn) : perfK m 4 = perfL m := rfl
theorem ziM (m : Mn) (v : Int) (j : Nat) : prodF m v j * m.p (v + (j : Int)) = prodF m v (j + 1) := rfl
theorem zm6 (j : Nat) : dbl j * 2 = dbl (j + 1) := rfl
theorem zm7 (j : Nat) : 2 * dbl j = dbl (j + 1) := by rw [← zm6]; exact Int.mul_comm _ _
attribute [local irreducible] prodF dbl perfK perfL
theorem zg4 (m : Mn) (v : Int) (hm : ckM m = 0) (h1 : 1 <= v) (h8 : v <= 8) : Fn Tryz.prog 98 [mnA m, iv v] (tmA (fullT m v)) := by
 have hp0 : prodF m v 0 = 1 := by unfold prodF; rfl
 have hd0 : dbl 0 = 1 := by unfold dbl; rfl
 refine Fn.go Tryz.func98 Tryz.ntmps98 (fun g w d => ?_)
 apply X.sr
 refine Ex.ba ?_
 refine Ex.al ?_
 apply Ex.ns
 refine Ex.pu ?_
 refine Ex.pn ?_
 apply X.seq
 apply X.sr
 refine Ex.pu ?_
 refine Ex.pn ?_
 apply X.block
 refine X.lp (ι := Nat) (fun (j : Nat) => [(1, iv v), (2, .ptr 2 0 0 0), (4, .ptr 4 0 0 0), (5, iv (prodF m v j)), (6, iv 1), (7, iv (v + (j : Int)))]) (fun (j : Nat) => [(2, .box (mnE m) 23), (4, .box [iv 0, iv 0] 60)]) (fun (j : Nat) => j <= (5 - v).toNat) (fun (j : Nat) => (5 - v).toNat - j) 0 (fun j hk => ?_)
 apply X.seq
 apply X.sr
 refine Ex.pu ?_
 refine Ex.pn ?_
 refine X.cd rfl ?_ ?_<;>intro hc1
 ·have hjv : j < (5 - v).toNat := by omega
  have hb := zg3 (m := m) hm h1 j
  have hb2 := zm4 j (by omega)
  have hp := zg2 hm (v + j) (by omega)
  have hst := ziM m v j
  have hpm : 0 <= prodF m v j * m.p (v + (j : Int)) /\ prodF m v j * m.p (v + (j : Int)) <= 1000 := by rcases hp with e | e <;> rw [e] <;> omega
  apply X.skip
  apply X.seq
  apply X.block
  apply X.region
  iterate 3 refine Ex.pu ?_
  refine Ex.ca (zgL m (v + (j : Int)) (by omega) (by omega)) ?_
  refine Ex.pu ?_
  refine Ex.pn ?_
  apply X.region
  iterate 2 refine Ex.pu ?_
  refine Ex.pn ?_
  refine X.bk (j + 1)
 ·have hj : j = (5 - v).toNat := by omega
  subst hj
  apply X.exit
  apply X.seq
  apply X.sr
  refine Ex.pn ?_
  apply X.block
  refine X.lp (ι := Nat) (fun (j : Nat) => [(1, iv v), (2, .ptr 2 0 0 0), (4, .ptr 4 0 0 0), (5, iv (prodF m v (5 - v).toNat)), (6, iv (dbl j)), (8, iv (5 + (j : Int)))]) (fun (j : Nat) => [(2, .box (mnE m) 23), (4, .box [iv 0, iv 0] 60)]) (fun (j : Nat) => j <= (v - 5).toNat) (fun (j : Nat) => (v - 5).toNat - j) 0 (fun j hk => ?_)
  apply X.seq
  apply X.sr
  iterate 2 refine Ex.pu ?_
  refine Ex.pn ?_
  refine X.cd rfl ?_ ?_<;>intro hc2
  ·have hb := zm5 j (by omega)
   have hst := zm6 j
   apply X.skip
   apply X.seq
   apply X.block
   apply X.region
   iterate 2 refine Ex.pu ?_
   refine Ex.pn ?_
   apply X.region
   iterate 2 refine Ex.pu ?_
   refine Ex.pn ?_
   refine X.bk (j + 1)
  ·have hj : j = (v - 5).toNat := by omega
   subst hj
   apply X.exit
   apply X.sr
   iterate 3 refine Ex.pu ?_
   refine Ex.mo ?_
   apply Ex.nil
   refine X.ret ?_
   refine RetQ.ret (.one (.cellA rfl rfl rfl rfl ty60 (LeV.eq ?_)))
   all_goals (rfl)
theorem zg5 (m : Mn) (v : Int) : Fn Tryz.prog 38 [mnA m, iv v] (.tup [tmA (if ckMV m v = 0 then fullT m v else tmZ), iv (ckMV m v)]) := by
 refine Fn.go Tryz.func38 Tryz.ntmps38 (fun g w d => ?_)
 apply X.sr
 refine Ex.ba ?_
 refine Ex.al ?_
 refine Ex.pn ?_
 apply X.seq
 apply X.sr
 iterate 2 refine Ex.pu ?_
 refine Ex.ca (zbS m v) ?_
 refine Ex.pu ?_
 apply Ex.ns
 refine Ex.pu ?_
 refine Ex.pn ?_
 refine X.cd rfl ?_ ?_<;>intro hc1
 ·apply X.sr
  iterate 2 refine Ex.pu ?_
  refine Ex.mo ?_
  refine Ex.pn ?_
  refine X.ret ?_
  refine RetQ.rc ty60 ?_ ?_
  all_goals (first | rfl | (rw [if_neg hc1]; done) | (rw [if_neg hc1]; rfl) | (rw [if_pos hc1]; done) | (rw [if_pos hc1]; rfl) | (rw [hc1]; done) | (rw [hc1]; rfl))
 have h3 := zkQ hc1
 apply X.skip
 apply X.sr
 iterate 2 refine Ex.pu ?_
 refine Ex.ca (zg4 m v h3.1 h3.2.1 h3.2.2) ?_
 refine Ex.mo ?_
 refine Ex.pn ?_
 refine X.ret ?_
 refine RetQ.rc ty60 ?_ ?_
 all_goals (first | rfl | (rw [if_neg hc1]; done) | (rw [if_neg hc1]; rfl) | (rw [if_pos hc1]; done) | (rw [if_pos hc1]; rfl) | (rw [hc1]; done) | (rw [hc1]; rfl))
theorem zdy (m : Mn) (v : Int) : Fn Tryz.prog 206 [mnA m, iv v] (.tup [tmA (if ckMV m v = 0 then fullT m v else tmZ), iv (ckMV m v)]) := by
 have hp0 : prodF m v 0 = 1 := by unfold prodF; rfl
 have hd0 : dbl 0 = 1 := by unfold dbl; rfl
 refine Fn.go Tryz.func206 Tryz.ntmps206 (fun g w d => ?_)
 apply X.sr
 refine Ex.ba ?_
 refine Ex.al ?_
 refine Ex.pu ?_
 apply Ex.ns
 iterate 2 refine Ex.pu ?_
 refine Ex.ca (zds m v) ?_
 refine Ex.pn ?_
 apply X.seq
 apply X.sr
 refine Ex.pu ?_
 refine Ex.pn ?_
 refine X.cd rfl ?_ ?_<;>intro hc1
 ·apply X.sr
  iterate 2 refine Ex.pu ?_
  refine Ex.mo ?_
  refine Ex.pn ?_
  refine X.ret ?_
  refine RetQ.rc ty60 ?_ ?_
  all_goals (first | rfl | (rw [if_neg hc1]; done) | (rw [if_neg hc1]; rfl) | (rw [if_pos hc1]; done) | (rw [if_pos hc1]; rfl) | (rw [hc1]; done) | (rw [hc1]; rfl))
 have h3 := zkQ hc1
 have hm := h3.1
 have h1 := h3.2.1
 have h8 := h3.2.2
 apply X.skip
 apply X.sr
 refine Ex.pu ?_
 refine Ex.pn ?_
 apply X.seq
 apply X.sr
 refine Ex.pu ?_
 refine Ex.pn ?_
 apply X.block
 refine X.lp (ι := Nat) (fun (j : Nat) => [(1, iv v), (2, .ptr 2 0 0 0), (4, .ptr 4 0 0 0), (5, iv 0), (7, iv (prodF m v j)), (8, iv 1), (9, iv (v + (j : Int)))]) (fun (j : Nat) => [(2, .box (mnE m) 23), (4, .box [iv 0, iv 0] 60)]) (fun (j : Nat) => j <= (5 - v).toNat) (fun (j : Nat) => (5 - v).toNat - j) 0 (fun j hk => ?_)
 apply X.seq
 apply X.sr
 refine Ex.pu ?_
 refine Ex.pn ?_
 refine X.cd rfl ?_ ?_<;>intro hc2
 ·have hjv : j < (5 - v).toNat := by omega
  have hb := zg3 (m := m) hm h1 j
  have hb2 := zm4 j (by omega)
  have hp := zg2 hm (v + j) (by omega)
  have hst := ziM m v j
  have hpm : 0 <= prodF m v j * m.p (v + (j : Int)) /\ prodF m v j * m.p (v + (j : Int)) <= 1000 := by rcases hp with e | e <;> rw [e] <;> omega
  apply X.skip
  apply X.seq
  apply X.block
  apply X.region
  iterate 3 refine Ex.pu ?_
  refine Ex.ca (zbF m (v + (j : Int))) ?_
  refine Ex.pu ?_
  refine Ex.pn ?_
  apply X.region
  iterate 2 refine Ex.pu ?_
  refine Ex.pn ?_
  refine X.bk (j + 1)
 ·have hj : j = (5 - v).toNat := by omega
  subst hj
  apply X.exit
  apply X.seq
  apply X.sr
  refine Ex.pu ?_
  refine Ex.pn ?_
  apply X.block
  refine X.lp (ι := Nat) (fun (j : Nat) => [(1, iv v), (2, .ptr 2 0 0 0), (4, .ptr 4 0 0 0), (5, iv 0), (7, iv (prodF m v (5 - v).toNat)), (8, iv (dbl j)), (10, iv (v - (j : Int)))]) (fun (j : Nat) => [(2, .box (mnE m) 23), (4, .box [iv 0, iv 0] 60)]) (fun (j : Nat) => j <= (v - 5).toNat) (fun (j : Nat) => (v - 5).toNat - j) 0 (fun j hk => ?_)
  apply X.seq
  apply X.sr
  refine Ex.pu ?_
  refine Ex.pn ?_
  refine X.cd rfl ?_ ?_<;>intro hc3
  ·have hb := zm5 j (by omega)
   have hst := zm7 j
   apply X.skip
   apply X.seq
   apply X.block
   apply X.region
   iterate 2 refine Ex.pu ?_
   refine Ex.pn ?_
   apply X.region
   iterate 2 refine Ex.pu ?_
   refine Ex.pn ?_
   refine X.bk (j + 1)
  ·have hj : j = (v - 5).toNat := by omega
   subst hj
   apply X.exit
   apply X.sr
   iterate 3 refine Ex.pu ?_
   refine Ex.mo ?_
   refine Ex.pn ?_
   refine X.ret ?_
   refine RetQ.rc ty60 ?_ ?_
   all_goals (first | rfl | (rw [if_neg hc1]; done) | (rw [if_neg hc1]; rfl) | (rw [if_pos hc1]; done) | (rw [if_pos hc1]; rfl) | (rw [hc1]; done) | (rw [hc1]; rfl))
theorem zcT (m : Mn) : Fn Tryz.prog 74 [mnA m] (.tup [intsA (if ckM m = 0 then perfL m else []), iv (ckM m)]) := by
 have hq0 : [] = perfK m 0 := by unfold perfK; rfl
 have hq4 := ziL m
 refine Fn.go Tryz.func74 Tryz.ntmps74 (fun g w d => ?_)
 apply X.sr
 refine Ex.ba ?_
 iterate 2 refine Ex.pu ?_
 apply Ex.ns
 refine Ex.pu ?_
 refine Ex.ca (zaV m) ?_
 refine Ex.pn ?_
 apply X.seq
 apply X.sr
 refine Ex.pu ?_
 refine Ex.pn ?_
 refine X.cd rfl ?_ ?_<;>intro hc1
 ·apply X.sr
  iterate 2 refine Ex.pu ?_
  refine Ex.pn ?_
  refine X.ret ?_
  refine RetQ.imp (Imp.au (ts := [(2, intsA []), (3, iv (ckM m))]) (hs := [])) ?_
  refine RetQ.r2 ?_ ?_
  all_goals (first | (rw [if_neg hc1]; done) | rfl | (rw [if_pos hc1, ← hq4]; rfl) | (rw [if_pos hc1, ← hq4]; done) | (rw [hc1]; done) | (rw [hc1]; rfl))
 apply X.skip
 apply X.sr
 refine Ex.pn ?_
 iterate 2 apply X.seq
 refine X.imp (Imp.mkrow intE 3 1 5 5 rfl rfl) ?_
 apply X.region
 refine Ex.pn ?_
 apply X.block
 refine X.lp (ι := Nat) (fun (j : Nat) => [(1, .ptr 1 0 0 0), (5, .own 5), (6, iv (4 - (j : Int)))]) (fun (j : Nat) => [(1, .box (mnE m) 23), (5, .row intE (perfK m j) 3 1)]) (fun (j : Nat) => j <= 4) (fun (j : Nat) => 4 - j) 0 (fun j hk => ?_)
 apply X.seq
 apply X.sr
 refine Ex.pu ?_
 refine Ex.pn ?_
 refine X.cd rfl ?_ ?_<;>intro hc2
 ·have hlen := ziJ m j
  apply X.skip
  apply X.seq
  apply X.block
  apply X.sr
  iterate 2 refine Ex.pu ?_
  refine Ex.ca (zbF m (4 - (j : Int))) ?_
  refine Ex.pn ?_
  refine X.cd rfl ?_ ?_<;>intro hc3
  ·have hrow := ziK (by omega) hc3
   apply X.region
   iterate 2 refine Ex.pu ?_
   refine Ex.bs intE [_] ?_
   refine Ex.mo ?_
   refine Ex.pn ?_
   apply X.region
   iterate 2 refine Ex.pu ?_
   refine Ex.pn ?_
   refine X.bk (j + 1)
  ·have hrow := zkc (by omega) hc3
   apply X.skip
   apply X.region
   iterate 2 refine Ex.pu ?_
   refine Ex.pn ?_
   refine X.bk (j + 1)
 ·have hj : j = 4 := by omega
  subst hj
  apply X.exit
  apply X.sr
  iterate 2 refine Ex.pu ?_
  refine Ex.pn ?_
  refine X.ret ?_
  refine RetQ.imp (Imp.freeze (k := 5) rfl) ?_
  refine RetQ.r2 ?_ ?_
  all_goals (first | (rw [if_neg hc1]; done) | rfl | (rw [if_pos hc1, ← hq4]; rfl) | (rw [if_pos hc1, ← hq4]; done) | (rw [hc1]; done) | (rw [hc1]; rfl))
end Go.Rse
