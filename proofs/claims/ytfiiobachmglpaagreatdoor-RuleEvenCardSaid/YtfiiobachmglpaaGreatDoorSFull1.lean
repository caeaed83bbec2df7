/-
  Walks: full durations, and the perfect values.
-/
import Derived.Test.YtfiiobachmglpaaGreatDoorSRef1
import Derived.Test.YtfiiobachmglpaaGreatDoorSRef5
set_option linter.unusedSimpArgs false
set_option linter.unusedVariables false
namespace Go.Rse
open Go Go.Proofs
attribute [local irreducible] Pur StepA StepM Ex X ExG Fn Imp LeV LeB FnO It YStep
def prodF (m : Mn) (v : Int) : Nat -> Int
 | 0 => 1
 | n + 1 => prodF m v n * m.p (v + n)
def dbl : Nat -> Int
 | 0 => 1
 | n + 1 => dbl n * 2
def fullT (m : Mn) (v : Int) : Tm := ⟨prodF m v (5 - v).toNat, dbl (v - 5).toNat⟩
theorem ckM_two {m : Mn} (h : ckM m = 0) (v : Int) (h1 : 1 <= v) : m.p v = 2 \/ m.p v = 3 := by
 rcases Int.lt_or_le 4 v with h4 | h4
 ·exact .inl (p_big h4)
 ·have ho : m.Ok := by
   unfold ckM at h; split at h
   ·assumption
   ·simp at h
  exact m.ok_iff.1 ho v h1 h4
def pw3 : Nat -> Int
 | 0 => 1
 | n + 1 => pw3 n * 3
theorem prodF_b {m : Mn} (h : ckM m = 0) {v : Int} (h1 : 1 <= v) : ∀ n, 1 <= prodF m v n /\ prodF m v n <= pw3 n
 | 0 => ⟨Int.le_refl _, Int.le_refl _⟩
 | n + 1 => by
  obtain ⟨a, b⟩ := prodF_b h h1 n
  simp only [prodF, pw3]
  rcases ckM_two h (v + n) (by omega) with e | e <;> rw [e] <;> omega
theorem pw3_b : ∀ n, n <= 4 -> pw3 n <= 81
 | 0, _ => by decide
 | 1, _ => by decide
 | 2, _ => by decide
 | 3, _ => by decide
 | 4, _ => by decide
 | n + 5, h => by omega
theorem dbl_b : ∀ n, n <= 3 -> 1 <= dbl n /\ dbl n <= 8
 | 0, _ => by decide
 | 1, _ => by decide
 | 2, _ => by decide
 | 3, _ => by decide
 | n + 4, h => by omega
theorem ckMV_M {m : Mn} {v : Int} (h : ckMV m v = 0) : ckM m = 0 /\ 1 <= v /\ v <= 8 := by
 have h2 := ckMV_ok h
 refine ⟨?_, h2⟩
 unfold ckMV at h; unfold ckM
 split at h
 ·rw [if_pos (by assumption)]
 ·omega
theorem prodF_s (m : Mn) (v : Int) (j : Nat) : prodF m v j * m.p (v + (j : Int)) = prodF m v (j + 1) := rfl
theorem dbl_s (j : Nat) : dbl j * 2 = dbl (j + 1) := rfl
attribute [local irreducible] prodF dbl perfL
theorem C_mens_full (m : Mn) (v : Int) (hm : ckM m = 0) (h1 : 1 <= v) (h8 : v <= 8) : Fn Tryz.prog 98 [mnA m, iv v] (tmA (fullT m v)) := by
 have hp0 : prodF m v 0 = 1 := by unfold prodF; rfl
 have hd0 : dbl 0 = 1 := by unfold dbl; rfl
 refine Fn.go Tryz.func98 Tryz.ntmps98 (fun g w d => ?_)
 apply X.sr
 refine Ex.ba ?_
 refine Ex.al ?_
 apply Ex.ns
 iterate 2 refine Ex.pu ?_
 apply Ex.nil
 apply X.seq
 apply X.sr
 iterate 2 refine Ex.pu ?_
 apply Ex.nil
 apply X.block
 refine X.lp (ι := Nat) (fun (j : Nat) => [(1, iv v), (2, .ptr 2 0 0 0), (4, .ptr 4 0 0 0), (5, iv (prodF m v j)), (6, iv 1), (7, iv (v + (j : Int)))]) (fun (j : Nat) => [(2, .box (mnE m) 23), (4, .box [iv 0, iv 0] 60)]) (fun (j : Nat) => j <= (5 - v).toNat) (fun (j : Nat) => (5 - v).toNat - j) 0 (fun j hk => ?_)
 apply X.seq
 apply X.sr
 iterate 2 refine Ex.pu ?_
 apply Ex.nil
 refine X.cd rfl (fun hc1 => ?_) (fun hc1 => ?_)
 ·have hjv : j < (5 - v).toNat := by omega
  have hb := prodF_b (m := m) hm h1 j
  have hb2 := pw3_b j (by omega)
  have hp := ckM_two hm (v + j) (by omega)
  have hst := prodF_s m v j
  have hpm : 0 <= prodF m v j * m.p (v + (j : Int)) /\ prodF m v j * m.p (v + (j : Int)) <= 1000 := by rcases hp with e | e <;> rw [e] <;> omega
  apply X.skip
  apply X.seq
  apply X.block
  apply X.region
  iterate 3 refine Ex.pu ?_
  refine Ex.ca (C_mens_of m (v + (j : Int)) (by omega) (by omega)) ?_
  iterate 2 refine Ex.pu ?_
  apply Ex.nil
  apply X.region
  iterate 3 refine Ex.pu ?_
  apply Ex.nil
  refine X.bk (j + 1)
 ·have hj : j = (5 - v).toNat := by omega
  subst hj
  apply X.exit
  apply X.seq
  apply X.sr
  refine Ex.pu ?_
  apply Ex.nil
  apply X.block
  refine X.lp (ι := Nat) (fun (j : Nat) => [(1, iv v), (2, .ptr 2 0 0 0), (4, .ptr 4 0 0 0), (5, iv (prodF m v (5 - v).toNat)), (6, iv (dbl j)), (8, iv (5 + (j : Int)))]) (fun (j : Nat) => [(2, .box (mnE m) 23), (4, .box [iv 0, iv 0] 60)]) (fun (j : Nat) => j <= (v - 5).toNat) (fun (j : Nat) => (v - 5).toNat - j) 0 (fun j hk => ?_)
  apply X.seq
  apply X.sr
  iterate 3 refine Ex.pu ?_
  apply Ex.nil
  refine X.cd rfl (fun hc2 => ?_) (fun hc2 => ?_)
  ·have hb := dbl_b j (by omega)
   have hst := dbl_s j
   apply X.skip
   apply X.seq
   apply X.block
   apply X.region
   iterate 3 refine Ex.pu ?_
   apply Ex.nil
   apply X.region
   iterate 3 refine Ex.pu ?_
   apply Ex.nil
   refine X.bk (j + 1)
  ·have hj : j = (v - 5).toNat := by omega
   subst hj
   apply X.exit
   apply X.sr
   iterate 3 refine Ex.pu ?_
   refine Ex.mo ?_
   apply Ex.nil
   refine X.ret ?_
   refine RetQ.ret (.one (.cellA rfl rfl rfl rfl ty60 (LeV.eq ?_)))
   all_goals (rfl)
theorem C_mens_Full (m : Mn) (v : Int) : Fn Tryz.prog 38 [mnA m, iv v] (.tup [tmA (if ckMV m v = 0 then fullT m v else tmZ), iv (ckMV m v)]) := by
 refine Fn.go Tryz.func38 Tryz.ntmps38 (fun g w d => ?_)
 apply X.sr
 refine Ex.ba ?_
 refine Ex.al ?_
 refine Ex.pu ?_
 apply Ex.nil
 apply X.seq
 apply X.sr
 iterate 2 refine Ex.pu ?_
 refine Ex.ca (C_mens_checked m v) ?_
 refine Ex.pu ?_
 apply Ex.ns
 iterate 2 refine Ex.pu ?_
 apply Ex.nil
 refine X.cd rfl (fun hc1 => ?_) (fun hc1 => ?_)
 ·apply X.sr
  iterate 2 refine Ex.pu ?_
  refine Ex.mo ?_
  refine Ex.pu ?_
  apply Ex.nil
  refine X.ret ?_
  refine RetQ.ret (.many (by decide) (.cons (.cellA rfl rfl rfl rfl ty60 (LeV.eq ?_)) (.cons (.tmp rfl (LeV.eq ?_)) .nil)))
  all_goals (first | rfl | (rw [if_neg hc1]; done) | (rw [if_neg hc1]; rfl) | (rw [if_pos hc1]; done) | (rw [if_pos hc1]; rfl) | (rw [hc1]; done) | (rw [hc1]; rfl))
 have h3 := ckMV_M hc1
 apply X.skip
 apply X.sr
 iterate 2 refine Ex.pu ?_
 refine Ex.ca (C_mens_full m v h3.1 h3.2.1 h3.2.2) ?_
 refine Ex.mo ?_
 refine Ex.pu ?_
 apply Ex.nil
 refine X.ret ?_
 refine RetQ.ret (.many (by decide) (.cons (.cellA rfl rfl rfl rfl ty60 (LeV.eq ?_)) (.cons (.tmp rfl (LeV.eq ?_)) .nil)))
 all_goals (first | rfl | (rw [if_neg hc1]; done) | (rw [if_neg hc1]; rfl) | (rw [if_pos hc1]; done) | (rw [if_pos hc1]; rfl) | (rw [hc1]; done) | (rw [hc1]; rfl))
end Go.Rse
