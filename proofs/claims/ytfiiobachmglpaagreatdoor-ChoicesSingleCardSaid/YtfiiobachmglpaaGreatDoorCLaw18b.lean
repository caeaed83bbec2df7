/-
  Walks: the statements on places, and on mensurations without a 3.
-/
import Derived.Test.YtfiiobachmglpaaGreatDoorCJLaw18a
import Derived.Test.YtfiiobachmglpaaGreatDoorCJCho10
set_option linter.unusedSimpArgs false
set_option linter.unusedVariables false
namespace Go.Rse
open Go Go.Proofs
attribute [local irreducible] Pur StepA StepM Ex X Fn Imp LeV LeB FnO It YStep FnW FnOW
theorem C_readings_eq (m : Mn) (l : List Sg) (hl : l.length <= 1000) : Fn Tryz.prog 48 [rdgsA (aqV m l), rdgsA (aqV m l)] (.bool true) := by
 have hln := aqV_len m l
 have h := C_tactuskit_SameReadings (aqV m l) (aqV m l) (by omega) (aqV_b hl) (aqV_b hl)
 simpa using h
attribute [local irreducible] abvK rnK rnV rnS aqV aqE rnL siJ plJ mMk atV
set_option maxHeartbeats 2000000 in
theorem C_tactuskit_Run_o (m : Mn) (nums : List Int) (most : Int) (h0 : 0 <= most) (h1 : most <= 1000) (hr : ∀ x, x ∈ nums -> -9223372036854775808 <= x /\ x <= 9223372036854775807) (hnl : nums.length <= maxLen) : FnO Tryz.prog 25 [mnA m, intsA nums, iv most] [] [] (.own 8) [(8, .row sgE (rnL m nums most) 67 17)] := by
 have hnl2 : nums.length <= 9223372036854775807 := hnl
 have hq0 : [] = rnK m nums most 0 := by unfold rnK; rfl
 refine FnO.intro (ts := [(0, mnA m), (1, intsA nums), (2, iv most)]) (rv := [.tmp 6]) (n := 81) (cs := []) (by kernel_rfl) Tryz.func25 rfl Tryz.ntmps25 rfl rfl (by simp) rfl rfl rfl rfl (fun g w d vs => ?_)
 apply X.sr
 refine Ex.ba ?_
 refine Ex.pu ?_
 apply Ex.nil
 apply X.sr
 refine Ex.bs intE [3, 4, 4, 5, 5, 3, 2, 6] ?_
 refine Ex.pu ?_
 apply Ex.nil
 apply X.seq
 refine X.imp (Imp.freeze (k := 13) rfl) ?_
 apply X.region
 refine Ex.pu ?_
 apply Ex.nil
 apply X.seq
 apply X.seq
 refine X.imp (Imp.mkrow sgE 67 17 8 8 rfl rfl) ?_
 apply X.region
 refine Ex.pu ?_
 apply Ex.nil
 apply X.block
 refine X.lp (ι := Nat) (fun (k : Nat) => [(1, intsA nums), (2, iv most), (3, .ptr 3 0 0 0), (7, intsA [3, 4, 4, 5, 5, 3, 2, 6]), (8, .own 8), (9, iv (k : Int))]) (fun (k : Nat) => [(1000001, .hold vs []), (3, .box (mnE m) 23), (8, .row sgE (rnK m nums most k) 67 17)]) (fun (k : Nat) => k <= nums.length) (fun (k : Nat) => nums.length - k) 0 (fun k hk => ?_) (h0 := by
  exact Imp.ax)
 apply X.seq
 apply X.sr
 iterate 4 refine Ex.pu ?_
 refine ExF.at 4 ?_
 refine ExF.pu ?_
 iterate 4 refine ExF.gi ?_
 refine ExF.done ?_
 refine Ex.pu ?_
 apply Ex.nil
 refine X.cd rfl (fun hc1 => ?_) (fun hc1 => ?_)
 ·obtain ⟨x, hx⟩ : ∃ x, nums[k]? = some x := ⟨_, List.getElem?_eq_getElem (by omega)⟩
  have hx2 : nums[(k : Int).toNat]? = some x := by simpa using hx
  have hxr := hr x (List.mem_of_getElem? hx)
  have h504 : 0 <= x % 504 /\ x % 504 < 504 := by omega
  have hml := rnK_len m nums h0 k
  have hv := rnV_get (x % 504)
  have hvr := rnV_rng (x % 504)
  apply X.skip
  apply X.seq
  apply X.block
  apply X.sr
  iterate 4 refine Ex.pu ?_
  refine Ex.ca (C_tactuskit_Mod x 504 hxr (by omega)) ?_
  refine Ex.pu ?_
  apply Ex.nil
  apply X.sr
  iterate 8 refine Ex.pu ?_
  refine Ex.al ?_
  refine Ex.mo ?_
  apply Ex.nil
  apply X.seq
  apply X.sr
  iterate 3 refine Ex.pu ?_
  apply Ex.nil
  apply X.block
  apply X.sr
  iterate 2 refine Ex.pu ?_
  apply Ex.nil
  refine X.cd rfl (fun hc2 => ?_) (fun hc2 => ?_)
  ·have hS : rnS k (x % 504) = ⟨2, rnV (x % 504), 0, 0, false, 0, false, false, ⟨0, 0, 0, 0⟩, false, 0, 0, 0, 0⟩ := by unfold rnS; rw [if_pos hc2]
   apply X.region
   iterate 3 refine Ex.pu ?_
   refine Ex.mo ?_
   apply Ex.nil
   apply X.sr
   iterate 2 refine Ex.pu ?_
   refine Ex.bs sgE [⟨2, rnV (x % 504), 0, 0, false, 0, false, false, ⟨0, 0, 0, 0⟩, false, 0, 0, 0, 0⟩] ?_
   refine Ex.mo ?_
   refine Ex.pu ?_
   apply Ex.nil
   apply X.sr
   iterate 3 refine Ex.pu ?_
   refine ExF.at 3 ?_
   refine ExF.pu ?_
   iterate 4 refine ExF.gi ?_
   refine ExF.done ?_
   iterate 2 refine Ex.pu ?_
   apply Ex.nil
   apply X.sr
   refine Ex.pu ?_
   refine ExF.at 1 ?_
   refine ExF.pu ?_
   iterate 7 refine ExF.gi ?_
   refine ExF.cg (C_tactuskit_above m (rnV (x % 504)) (by omega)) ?_
   refine ExF.gi ?_
   refine ExF.done ?_
   refine Ex.pu ?_
   apply Ex.nil
   refine X.cd rfl (fun hc3 => ?_) (fun hc3 => ?_)
   ·have hrow := rnK_dotI hS hx hc1.2 hc3
    apply X.region
    iterate 2 refine Ex.pu ?_
    refine Ex.bs sgE [sgDot] ?_
    refine Ex.mo ?_
    refine Ex.pu ?_
    apply Ex.nil
    apply X.region
    iterate 3 refine Ex.pu ?_
    apply Ex.nil
    refine X.bk (k + 1) (hI := Imp.ax)
   ·have hrow := rnK_sgnI hS hx hc1.2 hc3
    apply X.skip
    apply X.region
    iterate 3 refine Ex.pu ?_
    apply Ex.nil
    refine X.bk (k + 1) (hI := Imp.ax)
  ·apply X.seq
   apply X.sr
   iterate 2 refine Ex.pu ?_
   apply Ex.nil
   refine X.cd rfl (fun hc4 => ?_) (fun hc4 => ?_)
   ·apply X.skip
    refine X.cd rfl (fun hc5 => ?_) (fun hc5 => ?_)
    ·have hS : rnS k (x % 504) = ⟨1, rnV (x % 504), (k : Int) % 9, 0, true, 0, false, false, ⟨0, 0, 0, 0⟩, false, 0, 0, 0, 0⟩ := by unfold rnS; rw [if_neg hc2, hc4]; rfl
     apply X.region
     refine Ex.pu ?_
     refine Ex.mo ?_
     apply Ex.nil
     apply X.sr
     iterate 2 refine Ex.pu ?_
     refine Ex.bs sgE [⟨1, rnV (x % 504), (k : Int) % 9, 0, true, 0, false, false, ⟨0, 0, 0, 0⟩, false, 0, 0, 0, 0⟩] ?_
     refine Ex.mo ?_
     refine Ex.pu ?_
     apply Ex.nil
     apply X.sr
     iterate 3 refine Ex.pu ?_
     refine ExF.at 3 ?_
     refine ExF.pu ?_
     iterate 4 refine ExF.gi ?_
     refine ExF.done ?_
     iterate 2 refine Ex.pu ?_
     apply Ex.nil
     apply X.sr
     refine Ex.pu ?_
     refine ExF.at 1 ?_
     refine ExF.pu ?_
     iterate 7 refine ExF.gi ?_
     refine ExF.cg (C_tactuskit_above m (rnV (x % 504)) (by omega)) ?_
     refine ExF.gi ?_
     refine ExF.done ?_
     refine Ex.pu ?_
     apply Ex.nil
     refine X.cd rfl (fun hc6 => ?_) (fun hc6 => ?_)
     ·have hrow := rnK_dotI hS hx hc1.2 hc6
      apply X.region
      iterate 2 refine Ex.pu ?_
      refine Ex.bs sgE [sgDot] ?_
      refine Ex.mo ?_
      refine Ex.pu ?_
      apply Ex.nil
      apply X.region
      iterate 3 refine Ex.pu ?_
      apply Ex.nil
      refine X.bk (k + 1) (hI := Imp.ax)
     ·have hrow := rnK_sgnI hS hx hc1.2 hc6
      apply X.skip
      apply X.region
      iterate 3 refine Ex.pu ?_
      apply Ex.nil
      refine X.bk (k + 1) (hI := Imp.ax)
    ·omega
   ·apply X.region
    iterate 2 refine Ex.pu ?_
    apply Ex.nil
    refine X.cd rfl (fun hc7 => ?_) (fun hc7 => ?_)
    ·have hS : rnS k (x % 504) = ⟨1, rnV (x % 504), (k : Int) % 9, 0, true, 0, false, false, ⟨0, 0, 0, 0⟩, false, 0, 0, 0, 0⟩ := by unfold rnS; rw [if_neg hc2, hc7]; rfl
     apply X.region
     refine Ex.pu ?_
     refine Ex.mo ?_
     apply Ex.nil
     apply X.sr
     iterate 2 refine Ex.pu ?_
     refine Ex.bs sgE [⟨1, rnV (x % 504), (k : Int) % 9, 0, true, 0, false, false, ⟨0, 0, 0, 0⟩, false, 0, 0, 0, 0⟩] ?_
     refine Ex.mo ?_
     refine Ex.pu ?_
     apply Ex.nil
     apply X.sr
     iterate 3 refine Ex.pu ?_
     refine ExF.at 3 ?_
     refine ExF.pu ?_
     iterate 4 refine ExF.gi ?_
     refine ExF.done ?_
     iterate 2 refine Ex.pu ?_
     apply Ex.nil
     apply X.sr
     refine Ex.pu ?_
     refine ExF.at 1 ?_
     refine ExF.pu ?_
     iterate 7 refine ExF.gi ?_
     refine ExF.cg (C_tactuskit_above m (rnV (x % 504)) (by omega)) ?_
     refine ExF.gi ?_
     refine ExF.done ?_
     refine Ex.pu ?_
     apply Ex.nil
     refine X.cd rfl (fun hc8 => ?_) (fun hc8 => ?_)
     ·have hrow := rnK_dotI hS hx hc1.2 hc8
      apply X.region
      iterate 2 refine Ex.pu ?_
      refine Ex.bs sgE [sgDot] ?_
      refine Ex.mo ?_
      refine Ex.pu ?_
      apply Ex.nil
      apply X.region
      iterate 3 refine Ex.pu ?_
      apply Ex.nil
      refine X.bk (k + 1) (hI := Imp.ax)
     ·have hrow := rnK_sgnI hS hx hc1.2 hc8
      apply X.skip
      apply X.region
      iterate 3 refine Ex.pu ?_
      apply Ex.nil
      refine X.bk (k + 1) (hI := Imp.ax)
    ·have hS : rnS k (x % 504) = ⟨1, rnV (x % 504), (k : Int) % 9, 0, false, 0, false, false, ⟨0, 0, 0, 0⟩, false, 0, 0, 0, 0⟩ := by unfold rnS; rw [if_neg hc2, decide_eq_false hc4, decide_eq_false hc7]; rfl
     apply X.skip
     apply X.sr
     iterate 2 refine Ex.pu ?_
     refine Ex.bs sgE [⟨1, rnV (x % 504), (k : Int) % 9, 0, false, 0, false, false, ⟨0, 0, 0, 0⟩, false, 0, 0, 0, 0⟩] ?_
     refine Ex.mo ?_
     refine Ex.pu ?_
     apply Ex.nil
     apply X.sr
     iterate 3 refine Ex.pu ?_
     refine ExF.at 3 ?_
     refine ExF.pu ?_
     iterate 4 refine ExF.gi ?_
     refine ExF.done ?_
     iterate 2 refine Ex.pu ?_
     apply Ex.nil
     apply X.sr
     refine Ex.pu ?_
     refine ExF.at 1 ?_
     refine ExF.pu ?_
     iterate 7 refine ExF.gi ?_
     refine ExF.cg (C_tactuskit_above m (rnV (x % 504)) (by omega)) ?_
     refine ExF.gi ?_
     refine ExF.done ?_
     refine Ex.pu ?_
     apply Ex.nil
     refine X.cd rfl (fun hc9 => ?_) (fun hc9 => ?_)
     ·have hrow := rnK_dotI hS hx hc1.2 hc9
      apply X.region
      iterate 2 refine Ex.pu ?_
      refine Ex.bs sgE [sgDot] ?_
      refine Ex.mo ?_
      refine Ex.pu ?_
      apply Ex.nil
      apply X.region
      iterate 3 refine Ex.pu ?_
      apply Ex.nil
      refine X.bk (k + 1) (hI := Imp.ax)
     ·have hrow := rnK_sgnI hS hx hc1.2 hc9
      apply X.skip
      apply X.region
      iterate 3 refine Ex.pu ?_
      apply Ex.nil
      refine X.bk (k + 1) (hI := Imp.ax)
 ·have hfin : rnK m nums most k = rnL m nums most := rnL_at (by omega) hc1
  rw [hfin]
  apply X.exit
  apply X.sr
  iterate 2 refine Ex.pu ?_
  apply Ex.nil
  refine X.ret ?_
  refine RetQO.mk (ts := [(6, .own 8)]) (.inr rfl) (Imp.au) (.one (.tmp rfl (LeV.eq rfl)))
set_option maxHeartbeats 4000000 in
theorem C_tactuslaw18_ChoicesFields (n : Int) (nums o : List Int) (hn : -9223372036854775808 <= n /\ n <= 9223372036854775807) (hr : ∀ x, x ∈ nums -> -9223372036854775808 <= x /\ x <= 9223372036854775807) (hnl : nums.length <= maxLen) (ho : ∀ x, x ∈ o -> -9223372036854775808 <= x /\ x <= 9223372036854775807) (hol : o.length <= maxLen) : Fn Tryz.prog 10 [iv n, intsA nums, intsA o] (.bool true) := by
 have hM := C_tactuskit_Mens n hn
 generalize mMk n = m at hM
 have hR := C_tactuskit_Run m nums 10 (by decide) (by decide) hr hnl
 have hrl := rnL_len m nums (most := 10) (by decide)
 generalize rnL m nums 10 = l at hR hrl
 have hq0 := plJ_0 o l
 have hA2 : Fn Tryz.prog 47 [mnA m, sgsA (plJ o l l.length)] (.tup [rdgsA (aqV m l), iv (aqE m l)]) := by
  have h := C_choices_All m (plJ o l l.length) (by rw [plJ_len]; omega)
  have hZ1 := nrm_all (m := m) (plJ_nrm o l l.length)
  obtain ⟨e1, e2⟩ := hZ1
  rw [e1, e2] at h; exact h
 refine Fn.go Tryz.func10 Tryz.ntmps10 (fun g w d => ?_)
 apply X.sr
 refine Ex.pu ?_
 apply Ex.nil
 apply X.sr
 refine Ex.pu ?_
 refine Ex.ca hM ?_
 refine Ex.al ?_
 refine Ex.mo ?_
 apply Ex.nil
 apply X.sr
 iterate 2 refine Ex.pu ?_
 refine Ex.ca hR ?_
 refine Ex.pu ?_
 apply Ex.nil
 apply X.sr
 refine Ex.pu ?_
 refine Ex.callO' [(3, 21)] (C_tactuskit_OwnSignsO l (by omega)) rfl rfl rfl (LeL.refl _) rfl rfl trivial rfl rfl rfl rfl ?_
 refine Ex.pu ?_
 apply Ex.nil
 apply X.seq
 apply X.sr
 refine Ex.pu ?_
 apply Ex.nil
 apply X.block
 refine X.lp (ι := Nat) (fun (k : Nat) => [(7, .ptr 7 0 0 0), (8, sgsA l), (9, .own 21), (10, iv (k : Int)), (2, intsA o)]) (fun (k : Nat) => [(7, .box (mnE m) 23), (21, .row sgE (plJ o l k) 67 17)]) (fun (k : Nat) => k <= l.length) (fun (k : Nat) => l.length - k) 0 (fun k hk => ?_) (h0 := by
  exact Imp.ax)
 apply X.seq
 apply X.sr
 iterate 4 refine Ex.pu ?_
 apply Ex.nil
 refine X.cd rfl (fun hc1 => ?_) (fun hc1 => ?_)
 ·have hlen := plJ_len o l k
  obtain ⟨s, hs⟩ : ∃ s, l[k]? = some s := ⟨_, List.getElem?_eq_getElem (by omega)⟩
  have hs3 := plJ_at (o := o) hs
  have hkn : (k : Int).toNat = k := Int.toNat_natCast k
  have hs4 : ((plJ o l k).set (k : Int).toNat (plF1 o k s))[(k : Int).toNat]? = some (plF1 o k s) := by rw [hkn, List.getElem?_set, if_pos rfl, if_pos (by omega)]
  have hrow : ((plJ o l k).set (k : Int).toNat (plF1 o k s)).set (k : Int).toNat (plF o k s) = plJ o l (k + 1) := by rw [hkn]; exact plJ_set hs
  have hlen2 : ((plJ o l k).set (k : Int).toNat (plF1 o k s)).length = l.length := by rw [List.length_set]; exact hlen
  have hat := atV_rng ho (k : Int)
  apply X.skip
  apply X.seq
  apply X.block
  apply X.region
  iterate 6 refine Ex.pu ?_
  refine Ex.ca (C_tactuskit_At o (k : Int)) ?_
  refine Ex.ca (C_tactuskit_Mod (atV o (k : Int)) 9 hat (by omega)) ?_
  iterate 5 refine Ex.pu ?_
  refine Ex.mo (hs := M_store_rowF (n := 1) s (plF1 o k s) rfl rfl hs3 (fun _ => rfl) (by decide) rfl rfl rfl (by decide) rfl rfl rfl TyK.h) ?_
  iterate 2 refine Ex.pu ?_
  refine Ex.mo (hs := M_store_rowF (n := 1) (plF1 o k s) (plF o k s) rfl rfl hs4 (fun _ => rfl) (by decide) rfl rfl rfl (by decide) rfl rfl rfl TyK.h) ?_
  apply Ex.nil
  apply X.region
  iterate 3 refine Ex.pu ?_
  apply Ex.nil
  refine X.bk (k + 1) (hI := Imp.ax)
 ·have hlen := plJ_len o l k
  obtain rfl : k = l.length := by omega
  apply X.exit
  apply X.seq
  refine X.imp (Imp.freeze (k := 21) rfl) ?_
  apply X.region
  iterate 2 refine Ex.pu ?_
  refine Ex.ca (C_choices_All m l (by omega)) ?_
  iterate 5 refine Ex.pu ?_
  apply Ex.nil
  apply X.sr
  iterate 2 refine Ex.pu ?_
  refine Ex.ca hA2 ?_
  iterate 5 refine Ex.pu ?_
  apply Ex.nil
  apply X.sr
  iterate 3 refine Ex.pu ?_
  refine ExF.at 3 ?_
  refine ExF.pu ?_
  iterate 2 refine ExF.gi ?_
  refine ExF.cg (C_readings_eq m l (by omega)) ?_
  iterate 2 refine ExF.pu ?_
  refine ExF.cg C_tactuslaw18_awake ?_
  refine ExF.done ?_
  iterate 2 refine Ex.pu ?_
  apply Ex.nil
  refine X.ret ?_
  refine RetQ.ret (.one (.tmp rfl (LeV.eq ?_)))
  all_goals (first | rfl | simp)
set_option maxHeartbeats 4000000 in
theorem C_tactuslaw18_ChoicesSingle (nums : List Int) (hr : ∀ x, x ∈ nums -> -9223372036854775808 <= x /\ x <= 9223372036854775807) (hnl : nums.length <= maxLen) : Fn Tryz.prog 11 [intsA nums] (.bool true) := by
 have hrl := rnL_len mH nums (most := 10) (by decide)
 have hG := rnL_gr mH nums 10
 have hR := C_tactuskit_Run_o mH nums 10 (by decide) (by decide) hr hnl
 generalize rnL mH nums 10 = l at hrl hG hR
 have hZ1 := si_one hG
 obtain ⟨hE, hV⟩ := hZ1
 have hq0 := siJ_0 l
 have hC : Fn Tryz.prog 51 [mnA mH, sgsA (siJ l l.length)] (.tup [iv 1, iv 0]) := by
  have h := C_choices_Count mH (siJ l l.length) (by rw [siJ_len]; omega)
  rw [hE, hV] at h; exact h
 refine Fn.go Tryz.func11 Tryz.ntmps11 (fun g w d => ?_)
 apply X.sr
 refine Ex.pu ?_
 apply Ex.nil
 apply X.sr
 refine Ex.ca C_tactuslaw18_half ?_
 refine Ex.pu ?_
 refine Ex.co [(8, 21)] hR ?_
 refine Ex.pu ?_
 apply Ex.nil
 apply X.seq
 apply X.sr
 refine Ex.pu ?_
 apply Ex.nil
 apply X.block
 refine X.lp (ι := Nat) (fun (k : Nat) => [(3, .own 21), (4, iv (k : Int))]) (fun (k : Nat) => [(21, .row sgE (siJ l k) 67 17)]) (fun (k : Nat) => k <= l.length) (fun (k : Nat) => l.length - k) 0 (fun k hk => ?_) (h0 := by
  exact Imp.ax)
 apply X.seq
 apply X.sr
 iterate 4 refine Ex.pu ?_
 apply Ex.nil
 refine X.cd rfl (fun hc1 => ?_) (fun hc1 => ?_)
 ·have hlen := siJ_len l k
  obtain ⟨s, hs⟩ : ∃ s, l[k]? = some s := ⟨_, List.getElem?_eq_getElem (by omega)⟩
  have hs3 := siJ_at hs
  have hs2 : (siJ l k)[(k : Int).toNat]? = some s := by rw [Int.toNat_natCast]; exact hs3
  apply X.skip
  apply X.seq
  apply X.block
  apply X.sr
  iterate 5 refine Ex.pu ?_
  refine ExF.at 5 ?_
  refine ExF.pu ?_
  iterate 6 refine ExF.gi ?_
  refine ExF.done ?_
  refine Ex.pu ?_
  apply Ex.nil
  refine X.cd rfl (fun hc2 => ?_) (fun hc2 => ?_)
  ·have hrow := siJ_yes hs hc2
   apply X.region
   iterate 4 refine Ex.pu ?_
   refine Ex.mo (hs := M_store_rowF (n := 1) s (siF s) rfl rfl hs3 (fun _ => rfl) (by decide) rfl rfl rfl (by decide) rfl rfl rfl TyK.h) ?_
   apply Ex.nil
   apply X.region
   iterate 3 refine Ex.pu ?_
   apply Ex.nil
   refine X.bk (k + 1) (hI := Imp.ax)
  ·have hrow := siJ_no hs (fun h => by rcases hc2 with e | e; (rw [h.1] at e; cases e); (exact e h.2))
   apply X.skip
   apply X.region
   iterate 3 refine Ex.pu ?_
   apply Ex.nil
   refine X.bk (k + 1) (hI := Imp.ax)
 ·have hlen := siJ_len l k
  obtain rfl : k = l.length := by omega
  apply X.exit
  apply X.seq
  refine X.imp (Imp.freeze (k := 21) rfl) ?_
  apply X.region
  refine Ex.ca C_tactuslaw18_half ?_
  refine Ex.pu ?_
  refine Ex.ca hC ?_
  iterate 5 refine Ex.pu ?_
  apply Ex.nil
  apply X.sr
  iterate 2 refine Ex.pu ?_
  refine ExF.at 2 ?_
  refine ExF.pu ?_
  iterate 2 refine ExF.gi ?_
  iterate 2 refine ExF.pu ?_
  refine ExF.cg C_tactuslaw18_awake ?_
  refine ExF.done ?_
  iterate 2 refine Ex.pu ?_
  apply Ex.nil
  refine X.ret ?_
  refine RetQ.ret (.one (.tmp rfl (LeV.eq ?_)))
  all_goals (first | rfl | simp)
end Go.Rse
