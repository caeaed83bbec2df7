/-
  Walks: the statement on pairs apart.
-/
import Derived.Test.YteecbmgddacioaaLaw11b
namespace Go.Rse
open Go Go.Proofs
set_option linter.unusedVariables false
set_option linter.unusedSimpArgs false
attribute [local irreducible] Pur StepA StepM Ex X ExG Fn Imp LeV LeB FnO It YStep
attribute [local irreducible] prL twos ofV ofE colN colE duE duV ckD rnL mMk mulV mulE cmpV firstT fullT durT noK nuK atV digP isPair
set_option maxHeartbeats 2000000 in
theorem C_tactuslaw11_ColorApart (n : Int) (nums : List Int) (hn : -9223372036854775808 ≤ n ∧ n ≤ 9223372036854775807) (hr : ∀ x, x ∈ nums → -9223372036854775808 ≤ x ∧ x ≤ 9223372036854775807) (hnl : nums.length ≤ maxLen) : Fn Try.prog 13 [iv n, intsA nums] (.bool true) := by
  have hck := mMk_ck n
  have hM := C_tactuskit_Mens n hn
  generalize mMk n = m at hM hck
  have hR := C_tactuskit_Run m nums 16 (by omega) (by omega) hr hnl
  have hrl := rnL_len m nums (most := 16) (by omega)
  have hgr := rnL_gr m nums 16
  generalize rnL m nums 16 = l at hR hrl hgr
  have hcd := gr_ck hck hgr
  have hpl := prL_len m l
  have htl := twos_len (prL m l).length
  have hmi : mnOk (twos (prL m l).length) = true := mnOk_all fun j y hj hy => by
    unfold twos at hj hy; rw [List.length_replicate] at hj; rw [List.getElem?_replicate, if_pos hj] at hy; injection hy with hy; exact .inr hy.symm
  have hE : 0 = duE m l (twos (prL m l).length) := duE_3 hcd htl hmi
  have hD := C_color_Durs m l (twos (prL m l).length) (by omega) (by omega)
  rw [← hE] at hD
  have hn0 : noK l 0 = 0 := by unfold noK; rfl
  refine Fn.go Try.func13 Try.ntmps13 (fun g w d => ?_)
  refine X.seq ?_
  refine X.region ?_
  refine Ex.pu ?_
  refine Ex.nil ?_
  refine X.seq ?_
  refine X.region ?_
  refine Ex.pu ?_
  refine Ex.ca hM ?_
  refine Ex.al ?_
  refine Ex.mo ?_
  refine Ex.nil ?_
  refine X.seq ?_
  refine X.region ?_
  iterate 2 refine Ex.pu ?_
  refine Ex.ca hR ?_
  refine Ex.pu ?_
  refine Ex.nil ?_
  refine X.seq ?_
  refine X.region ?_
  iterate 2 refine Ex.pu ?_
  refine Ex.co [(39, 39)] (C_color_Pairs' m l (by omega)) ?_
  iterate 5 refine Ex.pu ?_
  refine Ex.nil ?_
  refine X.seq ?_
  refine X.imp (Imp.freeze (k := 39) rfl) ?_
  refine X.region ?_
  iterate 2 refine Ex.pu ?_
  refine Ex.ca (C_color_Rule m l (by omega)) ?_
  iterate 5 refine Ex.pu ?_
  refine Ex.nil ?_
  refine X.seq ?_
  refine X.region ?_
  iterate 3 refine Ex.pu ?_
  refine Ex.ca hD ?_
  iterate 5 refine Ex.pu ?_
  refine Ex.nil ?_
  refine X.seq ?_
  refine X.seq ?_
  refine X.region ?_
  iterate 2 refine Ex.pu ?_
  refine ExF.at 2 ?_
  refine ExF.pu ?_
  iterate 2 refine ExF.gi ?_
  iterate 2 refine ExF.pu ?_
  iterate 2 refine ExF.gi ?_
  iterate 2 refine ExF.pu ?_
  iterate 5 refine ExF.gi ?_
  refine ExF.done ?_
  refine Ex.pu ?_
  refine Ex.nil ?_
  refine X.cd rfl (fun hc1 => ?_) (fun hc1 => ?_)
  · (simp [hcd, htl] at hc1)
  refine X.skip ?_
  refine X.seq ?_
  refine X.seq ?_
  refine X.region ?_
  refine Ex.pu ?_
  refine Ex.nil ?_
  refine X.block ?_
  refine X.lp (ι := Nat) (fun (k : Nat) => [(6, sgsA l), (7, intsA (prL m l)), (11, tmsA (duV m l (twos (prL m l).length))), (13, iv (k : Int))]) (fun (k : Nat) => []) (fun (k : Nat) => k ≤ (prL m l).length) (fun (k : Nat) => (prL m l).length - k) 0 (fun k hk => ?_) (h0 := by
    exact Imp.ax)
  refine X.seq ?_
  refine X.seq ?_
  refine X.region ?_
  iterate 4 refine Ex.pu ?_
  refine Ex.nil ?_
  refine X.cd rfl (fun hc2 => ?_) (fun hc2 => ?_)
  · obtain ⟨x, hx⟩ : ∃ x, (prL m l)[k]? = some x := ⟨_, List.getElem?_eq_getElem (by omega)⟩
    have hx2 : (prL m l)[(k : Int).toNat]? = some x := by simpa using hx
    have hm := prL_mem (List.mem_of_getElem? hx)
    have hf := isPair_fact hm.1
    have hap := apart_at hcd hx
    have hprev : 0 < k → 0 ≤ (prL m l).getD ((k : Int) - 1).toNat default ∧ (prL m l).getD ((k : Int) - 1).toNat default + 2 ≤ x ∧ (prL m l).getD ((k : Int) - 1).toNat default < (l.length : Int) := fun h0 => by
      have hy : (prL m l)[((k : Int) - 1).toNat]? = some ((prL m l).getD ((k : Int) - 1).toNat default) := by rw [List.getD_eq_getElem?_getD, List.getElem?_eq_getElem (by omega)]; rfl
      have h1 := prL_mem (List.mem_of_getElem? hy)
      exact ⟨h1.2.1, prL_step hy (by rw [show ((k : Int) - 1).toNat + 1 = k by omega]; exact hx), h1.2.2⟩
    refine X.skip ?_
    refine X.seq ?_
    refine X.block ?_
    refine X.seq ?_
    refine X.seq ?_
    refine X.dw [63,64,65,66,67,68,69,70,71,72,73,74,75,76,77,78,79,80,81,82,83,84,85,86,87,88,89,90,91,92,93,94] [0,0,3,7,15,31,63,63,255,511,63,1087,3135,8191,16383,32767,65535,131071,262143,524287,524287,2097151,4194303,524287,524287,17301503,59244543,126353407,260571135,536870911,1073741823,2147483647] mo ?_
    iterate 6 refine ChM.pu ?_
    iterate 8 refine ChM.gi ?_
    iterate 2 refine ChM.pu ?_
    iterate 15 refine ChM.gi ?_
    refine ChM.pu ?_
    refine ChM.tl ?_
    refine Ex.nil ?_
    refine X.cd rfl (fun hc3 => ?_) (fun hc3 => ?_)
    · (first | omega | (simp at hc3; omega))
    have hk0 := hc3
    refine X.skip ?_
    refine X.seq ?_
    refine X.region ?_
    refine Ex.pu ?_
    refine Ex.nil ?_
    refine X.seq ?_
    refine X.seq ?_
    refine X.region ?_
    refine Ex.pu ?_
    refine Ex.nil ?_
    refine X.block ?_
    refine X.lp (ι := Nat) (fun (j : Nat) => [(6, sgsA l), (7, intsA (prL m l)), (11, tmsA (duV m l (twos (prL m l).length))), (13, iv (k : Int)), (14, iv (noK l j : Int)), (15, iv (j : Int))]) (fun (j : Nat) => []) (fun (j : Nat) => (j : Int) ≤ x) (fun (j : Nat) => x.toNat - j) 0 (fun j hk => ?_) (h0 := by
      exact Imp.ax)
    refine X.seq ?_
    refine X.seq ?_
    refine X.region ?_
    iterate 6 refine Ex.pu ?_
    refine Ex.nil ?_
    refine X.cd rfl (fun hc4 => ?_) (fun hc4 => ?_)
    · obtain ⟨s, hs⟩ : ∃ s, l[j]? = some s := ⟨_, List.getElem?_eq_getElem (by omega)⟩
      have hs2 : l[(j : Int).toNat]? = some s := by simpa using hs
      have hnl2 := noK_le l j
      refine X.skip ?_
      refine X.seq ?_
      refine X.block ?_
      refine X.seq ?_
      refine X.region ?_
      iterate 6 refine Ex.pu ?_
      refine Ex.nil ?_
      refine X.cd rfl (fun hc5 => ?_) (fun hc5 => ?_)
      · have hno := noK_nr hs hc5
        refine X.region ?_
        iterate 3 refine Ex.pu ?_
        refine Ex.nil ?_
        refine X.region ?_
        iterate 3 refine Ex.pu ?_
        refine Ex.nil ?_
        refine X.bk (j + 1) (hI := Imp.ax)
      · have hno := noK_dot hs hc5
        refine X.skip ?_
        refine X.region ?_
        iterate 3 refine Ex.pu ?_
        refine Ex.nil ?_
        refine X.bk (j + 1) (hI := Imp.ax)
    · have hjx : j = x.toNat := by omega
      subst hjx
      have hnl3 := noK_le l x.toNat
      have hl1 := (List.getElem?_eq_some_iff.1 hap.2).1
      have hl2 : (duV m l (twos (prL m l).length))[((noK l x.toNat : Nat) : Int).toNat]? = some ⟨3, 2⟩ := by simpa using hap.1
      have hl3 : (duV m l (twos (prL m l).length))[(((noK l x.toNat : Nat) : Int) + 1).toNat]? = some ⟨1, 2⟩ := by rw [show (((noK l x.toNat : Nat) : Int) + 1).toNat = noK l x.toNat + 1 by omega]; exact hap.2
      refine X.exit ?_
      refine X.seq ?_
      refine X.region ?_
      iterate 5 refine Ex.pu ?_
      refine ExF.at 5 ?_
      refine ExF.pu ?_
      iterate 6 refine ExF.gi ?_
      iterate 2 refine ExF.pu ?_
      iterate 7 refine ExF.gi ?_
      refine ExF.done ?_
      refine Ex.pu ?_
      refine Ex.nil ?_
      refine X.cd rfl (fun hc6 => ?_) (fun hc6 => ?_)
      · (first | omega | (simp at hc6; omega))
      refine X.skip ?_
      refine X.region ?_
      iterate 3 refine Ex.pu ?_
      refine Ex.nil ?_
      refine X.bk (k + 1) (hI := Imp.ax)
  · refine X.exit ?_
    refine X.seq ?_
    refine X.region ?_
    refine Ex.ca C_tactuslaw11_awake ?_
    refine Ex.pu ?_
    refine Ex.nil ?_
    refine X.ret ?_
    refine RetQ.ret (.one (.tmp rfl (LeV.eq ?_)))
    all_goals (first | rfl | simp)
end Go.Rse
