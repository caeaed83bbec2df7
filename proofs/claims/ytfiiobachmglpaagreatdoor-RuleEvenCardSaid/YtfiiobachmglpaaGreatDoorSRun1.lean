/-
  Walks: runs of numbers.
-/
import Derived.Test.YtfiiobachmglpaaGreatDoorSItfA
set_option linter.unusedSimpArgs false
set_option linter.unusedVariables false
namespace Go.Rse
open Go Go.Proofs
attribute [local irreducible] Pur StepA StepM Ex X ExG Fn Imp LeV LeB FnO It YStep
attribute [local irreducible] abvK rnK rnV rnS
theorem C_tactuskit_above (m : Mn) (v : Int) (h8 : v <= 1000000) : Fn Tryz.prog 77 [mnA m, iv v] (.bool (abvK m v)) := by
 refine Fn.go Tryz.func77 Tryz.ntmps77 (fun g w d => ?_)
 apply X.sr
 refine Ex.ba ?_
 refine Ex.pu ?_
 apply Ex.nil
 apply X.seq
 apply X.sr
 refine Ex.pu ?_
 apply Ex.nil
 apply X.block
 refine X.lp (ι := Nat) (fun (k : Nat) => [(1, iv v), (2, .ptr 2 0 0 0), (5, iv (1 + (k : Int)))]) (fun (k : Nat) => [(2, .box (mnE m) 23)]) (fun (k : Nat) => (k : Int) <= 1000000 /\ ∀ u, 1 <= u -> u < 1 + (k : Int) -> ¬ m.p u = 3) (fun (k : Nat) => v.toNat - k) 0 (fun k hk => ?_) (hJ := by
  exact ⟨by omega, fun u h1 h2 => by omega⟩)
 obtain ⟨hk1, hk2⟩ := hk
 apply X.seq
 apply X.sr
 iterate 3 refine Ex.pu ?_
 apply Ex.nil
 refine X.cd rfl (fun hc1 => ?_) (fun hc1 => ?_)
 ·apply X.skip
  apply X.seq
  apply X.block
  apply X.sr
  iterate 2 refine Ex.pu ?_
  refine Ex.ca (C_tactuskit_Parts m (1 + (k : Int))) ?_
  refine Ex.pu ?_
  apply Ex.nil
  refine X.cd rfl (fun hc2 => ?_) (fun hc2 => ?_)
  ·apply X.sr
   refine Ex.pu ?_
   apply Ex.nil
   refine X.ret ?_
   refine RetQ.ret (.one (.tmp rfl (LeV.eq ?_)))
   all_goals (congr 1; exact (abvK_yes (by omega) hc1 hc2).symm)
  apply X.skip
  apply X.region
  iterate 3 refine Ex.pu ?_
  apply Ex.nil
  refine X.bk (k + 1) (hJ := by
   refine ⟨by omega, fun u h1 h2 => ?_⟩
   by_cases e : u = 1 + (k : Int)
   ·rw [e]; exact hc2
   ·exact hk2 u h1 (by omega))
 ·apply X.exit
  apply X.sr
  refine Ex.pu ?_
  apply Ex.nil
  refine X.ret ?_
  refine RetQ.ret (.one (.tmp rfl (LeV.eq ?_)))
  all_goals (congr 1; exact (abvK_no fun u h1 h2 => hk2 u h1 (by omega)).symm)
set_option maxHeartbeats 2000000 in
theorem C_tactuskit_Run (m : Mn) (nums : List Int) (most : Int) (h0 : 0 <= most) (h1 : most <= 1000) (hr : ∀ x, x ∈ nums -> -9223372036854775808 <= x /\ x <= 9223372036854775807) (hnl : nums.length <= maxLen) : Fn Tryz.prog 25 [mnA m, intsA nums, iv most] (sgsA (rnL m nums most)) := by
 have hnl2 : nums.length <= 9223372036854775807 := hnl
 have hq0 : [] = rnK m nums most 0 := by unfold rnK; rfl
 refine Fn.go Tryz.func25 Tryz.ntmps25 (fun g w d => ?_)
 apply X.sr
 refine Ex.ba ?_
 refine Ex.pu ?_
 apply Ex.nil
 apply X.sr
 refine Ex.bs intE [3, 4, 4, 5, 5, 3, 2, 6] ?_
 refine Ex.pu ?_
 apply Ex.nil
 apply X.seq
 refine X.imp (Imp.freeze (k := 13) rfl) ?_
 apply X.region
 refine Ex.pu ?_
 apply Ex.nil
 apply X.seq
 apply X.seq
 refine X.imp (Imp.mkrow sgE 67 17 8 8 rfl rfl) ?_
 apply X.region
 refine Ex.pu ?_
 apply Ex.nil
 apply X.block
 refine X.lp (ι := Nat) (fun (k : Nat) => [(1, intsA nums), (2, iv most), (3, .ptr 3 0 0 0), (7, intsA [3, 4, 4, 5, 5, 3, 2, 6]), (8, .own 8), (9, iv (k : Int))]) (fun (k : Nat) => [(3, .box (mnE m) 23), (8, .row sgE (rnK m nums most k) 67 17)]) (fun (k : Nat) => k <= nums.length) (fun (k : Nat) => nums.length - k) 0 (fun k hk => ?_) (h0 := by
  exact Imp.ax)
 apply X.seq
 apply X.sr
 iterate 4 refine Ex.pu ?_
 refine ExF.at 4 ?_
 refine ExF.pu ?_
 iterate 4 refine ExF.gi ?_
 refine ExF.done ?_
 refine Ex.pu ?_
 apply Ex.nil
 refine X.cd rfl (fun hc1 => ?_) (fun hc1 => ?_)
 ·obtain ⟨x, hx⟩ : ∃ x, nums[k]? = some x := ⟨_, List.getElem?_eq_getElem (by omega)⟩
  have hx2 : nums[(k : Int).toNat]? = some x := by simpa using hx
  have hxr := hr x (List.mem_of_getElem? hx)
  have h504 : 0 <= x % 504 /\ x % 504 < 504 := by omega
  have hml := rnK_len m nums h0 k
  have hv := rnV_get (x % 504)
  have hvr := rnV_rng (x % 504)
  apply X.skip
  apply X.seq
  apply X.block
  apply X.sr
  iterate 4 refine Ex.pu ?_
  refine Ex.ca (C_tactuskit_Mod x 504 hxr (by omega)) ?_
  refine Ex.pu ?_
  apply Ex.nil
  apply X.sr
  iterate 8 refine Ex.pu ?_
  refine Ex.al ?_
  refine Ex.mo ?_
  apply Ex.nil
  apply X.seq
  apply X.sr
  iterate 3 refine Ex.pu ?_
  apply Ex.nil
  apply X.block
  apply X.sr
  iterate 2 refine Ex.pu ?_
  apply Ex.nil
  refine X.cd rfl (fun hc2 => ?_) (fun hc2 => ?_)
  ·have hS : rnS k (x % 504) = ⟨2, rnV (x % 504), 0, 0, false, 0, false, false, ⟨0, 0, 0, 0⟩, false, 0, 0, 0, 0⟩ := by unfold rnS; rw [if_pos hc2]
   apply X.region
   iterate 3 refine Ex.pu ?_
   refine Ex.mo ?_
   apply Ex.nil
   apply X.sr
   iterate 2 refine Ex.pu ?_
   refine Ex.bs sgE [⟨2, rnV (x % 504), 0, 0, false, 0, false, false, ⟨0, 0, 0, 0⟩, false, 0, 0, 0, 0⟩] ?_
   refine Ex.mo ?_
   refine Ex.pu ?_
   apply Ex.nil
   apply X.sr
   iterate 3 refine Ex.pu ?_
   refine ExF.at 3 ?_
   refine ExF.pu ?_
   iterate 4 refine ExF.gi ?_
   refine ExF.done ?_
   iterate 2 refine Ex.pu ?_
   apply Ex.nil
   apply X.sr
   refine Ex.pu ?_
   refine ExF.at 1 ?_
   refine ExF.pu ?_
   iterate 7 refine ExF.gi ?_
   refine ExF.cg (C_tactuskit_above m (rnV (x % 504)) (by omega)) ?_
   refine ExF.gi ?_
   refine ExF.done ?_
   refine Ex.pu ?_
   apply Ex.nil
   refine X.cd rfl (fun hc3 => ?_) (fun hc3 => ?_)
   ·have hrow := rnK_dotI hS hx hc1.2 hc3
    apply X.region
    iterate 2 refine Ex.pu ?_
    refine Ex.bs sgE [sgDot] ?_
    refine Ex.mo ?_
    refine Ex.pu ?_
    apply Ex.nil
    apply X.region
    iterate 3 refine Ex.pu ?_
    apply Ex.nil
    refine X.bk (k + 1) (hI := Imp.ax)
   ·have hrow := rnK_sgnI hS hx hc1.2 hc3
    apply X.skip
    apply X.region
    iterate 3 refine Ex.pu ?_
    apply Ex.nil
    refine X.bk (k + 1) (hI := Imp.ax)
  ·apply X.seq
   apply X.sr
   iterate 2 refine Ex.pu ?_
   apply Ex.nil
   refine X.cd rfl (fun hc4 => ?_) (fun hc4 => ?_)
   ·apply X.skip
    refine X.cd rfl (fun hc5 => ?_) (fun hc5 => ?_)
    ·have hS : rnS k (x % 504) = ⟨1, rnV (x % 504), (k : Int) % 9, 0, true, 0, false, false, ⟨0, 0, 0, 0⟩, false, 0, 0, 0, 0⟩ := by unfold rnS; rw [if_neg hc2, hc4]; rfl
     apply X.region
     refine Ex.pu ?_
     refine Ex.mo ?_
     apply Ex.nil
     apply X.sr
     iterate 2 refine Ex.pu ?_
     refine Ex.bs sgE [⟨1, rnV (x % 504), (k : Int) % 9, 0, true, 0, false, false, ⟨0, 0, 0, 0⟩, false, 0, 0, 0, 0⟩] ?_
     refine Ex.mo ?_
     refine Ex.pu ?_
     apply Ex.nil
     apply X.sr
     iterate 3 refine Ex.pu ?_
     refine ExF.at 3 ?_
     refine ExF.pu ?_
     iterate 4 refine ExF.gi ?_
     refine ExF.done ?_
     iterate 2 refine Ex.pu ?_
     apply Ex.nil
     apply X.sr
     refine Ex.pu ?_
     refine ExF.at 1 ?_
     refine ExF.pu ?_
     iterate 7 refine ExF.gi ?_
     refine ExF.cg (C_tactuskit_above m (rnV (x % 504)) (by omega)) ?_
     refine ExF.gi ?_
     refine ExF.done ?_
     refine Ex.pu ?_
     apply Ex.nil
     refine X.cd rfl (fun hc6 => ?_) (fun hc6 => ?_)
     ·have hrow := rnK_dotI hS hx hc1.2 hc6
      apply X.region
      iterate 2 refine Ex.pu ?_
      refine Ex.bs sgE [sgDot] ?_
      refine Ex.mo ?_
      refine Ex.pu ?_
      apply Ex.nil
      apply X.region
      iterate 3 refine Ex.pu ?_
      apply Ex.nil
      refine X.bk (k + 1) (hI := Imp.ax)
     ·have hrow := rnK_sgnI hS hx hc1.2 hc6
      apply X.skip
      apply X.region
      iterate 3 refine Ex.pu ?_
      apply Ex.nil
      refine X.bk (k + 1) (hI := Imp.ax)
    ·omega
   ·apply X.region
    iterate 2 refine Ex.pu ?_
    apply Ex.nil
    refine X.cd rfl (fun hc7 => ?_) (fun hc7 => ?_)
    ·have hS : rnS k (x % 504) = ⟨1, rnV (x % 504), (k : Int) % 9, 0, true, 0, false, false, ⟨0, 0, 0, 0⟩, false, 0, 0, 0, 0⟩ := by unfold rnS; rw [if_neg hc2, hc7]; rfl
     apply X.region
     refine Ex.pu ?_
     refine Ex.mo ?_
     apply Ex.nil
     apply X.sr
     iterate 2 refine Ex.pu ?_
     refine Ex.bs sgE [⟨1, rnV (x % 504), (k : Int) % 9, 0, true, 0, false, false, ⟨0, 0, 0, 0⟩, false, 0, 0, 0, 0⟩] ?_
     refine Ex.mo ?_
     refine Ex.pu ?_
     apply Ex.nil
     apply X.sr
     iterate 3 refine Ex.pu ?_
     refine ExF.at 3 ?_
     refine ExF.pu ?_
     iterate 4 refine ExF.gi ?_
     refine ExF.done ?_
     iterate 2 refine Ex.pu ?_
     apply Ex.nil
     apply X.sr
     refine Ex.pu ?_
     refine ExF.at 1 ?_
     refine ExF.pu ?_
     iterate 7 refine ExF.gi ?_
     refine ExF.cg (C_tactuskit_above m (rnV (x % 504)) (by omega)) ?_
     refine ExF.gi ?_
     refine ExF.done ?_
     refine Ex.pu ?_
     apply Ex.nil
     refine X.cd rfl (fun hc8 => ?_) (fun hc8 => ?_)
     ·have hrow := rnK_dotI hS hx hc1.2 hc8
      apply X.region
      iterate 2 refine Ex.pu ?_
      refine Ex.bs sgE [sgDot] ?_
      refine Ex.mo ?_
      refine Ex.pu ?_
      apply Ex.nil
      apply X.region
      iterate 3 refine Ex.pu ?_
      apply Ex.nil
      refine X.bk (k + 1) (hI := Imp.ax)
     ·have hrow := rnK_sgnI hS hx hc1.2 hc8
      apply X.skip
      apply X.region
      iterate 3 refine Ex.pu ?_
      apply Ex.nil
      refine X.bk (k + 1) (hI := Imp.ax)
    ·have hS : rnS k (x % 504) = ⟨1, rnV (x % 504), (k : Int) % 9, 0, false, 0, false, false, ⟨0, 0, 0, 0⟩, false, 0, 0, 0, 0⟩ := by unfold rnS; rw [if_neg hc2, decide_eq_false hc4, decide_eq_false hc7]; rfl
     apply X.skip
     apply X.sr
     iterate 2 refine Ex.pu ?_
     refine Ex.bs sgE [⟨1, rnV (x % 504), (k : Int) % 9, 0, false, 0, false, false, ⟨0, 0, 0, 0⟩, false, 0, 0, 0, 0⟩] ?_
     refine Ex.mo ?_
     refine Ex.pu ?_
     apply Ex.nil
     apply X.sr
     iterate 3 refine Ex.pu ?_
     refine ExF.at 3 ?_
     refine ExF.pu ?_
     iterate 4 refine ExF.gi ?_
     refine ExF.done ?_
     iterate 2 refine Ex.pu ?_
     apply Ex.nil
     apply X.sr
     refine Ex.pu ?_
     refine ExF.at 1 ?_
     refine ExF.pu ?_
     iterate 7 refine ExF.gi ?_
     refine ExF.cg (C_tactuskit_above m (rnV (x % 504)) (by omega)) ?_
     refine ExF.gi ?_
     refine ExF.done ?_
     refine Ex.pu ?_
     apply Ex.nil
     refine X.cd rfl (fun hc9 => ?_) (fun hc9 => ?_)
     ·have hrow := rnK_dotI hS hx hc1.2 hc9
      apply X.region
      iterate 2 refine Ex.pu ?_
      refine Ex.bs sgE [sgDot] ?_
      refine Ex.mo ?_
      refine Ex.pu ?_
      apply Ex.nil
      apply X.region
      iterate 3 refine Ex.pu ?_
      apply Ex.nil
      refine X.bk (k + 1) (hI := Imp.ax)
     ·have hrow := rnK_sgnI hS hx hc1.2 hc9
      apply X.skip
      apply X.region
      iterate 3 refine Ex.pu ?_
      apply Ex.nil
      refine X.bk (k + 1) (hI := Imp.ax)
 ·have hfin : rnK m nums most k = rnL m nums most := rnL_at (by omega) hc1
  apply X.exit
  apply X.sr
  iterate 2 refine Ex.pu ?_
  apply Ex.nil
  refine X.ret ?_
  refine RetQ.imp (Imp.freeze (k := 8) rfl) ?_
  refine RetQ.ret (.one (.tmp rfl (LeV.eq ?_)))
  all_goals (rw [← hfin]; rfl)
end Go.Rse
