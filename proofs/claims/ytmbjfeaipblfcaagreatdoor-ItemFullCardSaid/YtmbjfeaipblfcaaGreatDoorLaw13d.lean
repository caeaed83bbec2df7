/-
  Walks: the statement on combinations with different numbers.
-/
import Derived.Test.YtmbjfeaipblfcaaGreatDoorRun4
import Derived.Test.YtmbjfeaipblfcaaGreatDoorCmb1
import Derived.Test.YtmbjfeaipblfcaaGreatDoorItem3
import Derived.Test.YtmbjfeaipblfcaaGreatDoorItem4
import Derived.Test.YtmbjfeaipblfcaaGreatDoorLaw13c
namespace Go.Rse
open Go Go.Proofs
set_option linter.unusedVariables false
set_option linter.unusedSimpArgs false
attribute [local irreducible] Pur StepA StepM Ex X ExG Fn Imp LeV LeB FnO It YStep
theorem roL_ck {m : Mn} (hM : ckM m = 0) (nums : List Int) (most : Int) : ckD m (roL m nums most) = 0 := gr_ck hM (roK_gr m nums most nums.length).1
theorem roL_len (m : Mn) (nums : List Int) {most : Int} (h0 : 0 ≤ most) : ((roL m nums most).length : Int) ≤ most := roK_len m nums h0 nums.length
attribute [local irreducible] roL roK ruleD iofD iofM ictV ictE mnsD prL fnd twos
theorem C_tactuslaw13_less (a b : List Int) (hl : b.length ≤ 4000000000) : Fn Tryz.prog 33 [intsA a, intsA b] (.bool (lessL a b)) := by
  refine Fn.go Tryz.func33 Tryz.ntmps33 (fun g w d => ?_)
  refine X.seq ?_
  refine X.region ?_
  refine Ex.pu ?_
  refine Ex.nil ?_
  refine X.seq ?_
  refine X.seq ?_
  refine X.region ?_
  refine Ex.pu ?_
  refine Ex.nil ?_
  refine X.block ?_
  refine X.lp (ι := Nat) (fun (k : Nat) => [(0, intsA a), (1, intsA b), (5, iv (k : Int))]) (fun (k : Nat) => []) (fun (k : Nat) => k ≤ a.length ∧ k ≤ b.length ∧ lessL a b = lessL (a.drop k) (b.drop k)) (fun (k : Nat) => a.length - k) 0 (fun k hk => ?_) (hJ := by
    exact ⟨by omega, by omega, rfl⟩)
  obtain ⟨hk1, hkb, hk2⟩ := hk
  refine X.seq ?_
  refine X.seq ?_
  refine X.region ?_
  iterate 4 refine Ex.pu ?_
  refine ExF.at 4 ?_
  refine ExF.pu ?_
  iterate 4 refine ExF.gi ?_
  refine ExF.done ?_
  refine Ex.pu ?_
  refine Ex.nil ?_
  refine X.cd rfl (fun hc1 => ?_) (fun hc1 => ?_)
  · obtain ⟨x, hx⟩ : ∃ x, a[k]? = some x := ⟨_, List.getElem?_eq_getElem (by omega)⟩
    have hx2 : a[(k : Int).toNat]? = some x := by simpa using hx
    obtain ⟨y, hy⟩ : ∃ y, b[k]? = some y := ⟨_, List.getElem?_eq_getElem (by omega)⟩
    have hy2 : b[(k : Int).toNat]? = some y := by simpa using hy
    refine X.skip ?_
    refine X.seq ?_
    refine X.block ?_
    refine X.seq ?_
    refine X.dw [18,19,20,21,22,23,24,25,26] [0,0,3,7,0,0,48,112,255] mo ?_
    iterate 9 refine ChM.pu ?_
    refine ChM.tl ?_
    refine Ex.nil ?_
    refine X.cd rfl (fun hc2 => ?_) (fun hc2 => ?_)
    · refine X.seq ?_
      refine X.dw [4,27,28,29,30,31,32,33,34,35] [0,0,3,7,0,0,48,112,255,511] mo ?_
      iterate 10 refine ChM.pu ?_
      refine ChM.tl ?_
      refine Ex.nil ?_
      refine X.ret ?_
      refine RetQ.ret (.one (.tmp rfl (LeV.eq ?_)))
      all_goals (show AV.bool (decide (x < y)) = AV.bool _; congr 1; rw [hk2, lessL_at hx hy, if_neg (by first | exact hc2 | (simpa using hc2))])
    refine X.skip ?_
    refine X.region ?_
    iterate 3 refine Ex.pu ?_
    refine Ex.nil ?_
    refine X.bk (k + 1) (hJ := by
      exact ⟨by omega, by omega, by rw [hk2, lessL_at hx hy, if_pos (by first | exact hc2 | (simpa using hc2))]⟩)
  · refine X.exit ?_
    refine X.seq ?_
    refine X.region ?_
    refine Ex.pu ?_
    refine Ex.nil ?_
    refine X.ret ?_
    refine RetQ.ret (.one (.tmp rfl (LeV.eq ?_)))
    all_goals (congr 1; rw [hk2]; rcases hc1 with h | h; (rw [List.drop_of_length_le (show a.length ≤ k by omega)]; simp [lessL]); (rw [List.drop_of_length_le (show b.length ≤ k by omega)]; cases a.drop k <;> simp [lessL]))
theorem C_tactuslaw13_made (nums : List Int) (n : Int) (hr : ∀ x, x ∈ nums → -9223372036854775808 ≤ x ∧ x ≤ 9223372036854775807) (hnl : nums.length ≤ maxLen) (hn : -9223372036854775808 ≤ n ∧ n ≤ 9223372036854775807) : Fn Tryz.prog 30 [intsA nums, iv n] (.tup [mnA (mMk n), sgsA (roL (mMk n) nums 24)]) := by
  have hm := C_tactuskit_Mens n hn
  generalize mMk n = m at hm ⊢
  refine Fn.go Tryz.func30 Tryz.ntmps30 (fun g w d => ?_)
  refine X.seq ?_
  refine X.region ?_
  refine Ex.al ?_
  refine Ex.pu ?_
  refine Ex.nil ?_
  refine X.seq ?_
  refine X.region ?_
  refine Ex.pu ?_
  refine Ex.ca hm ?_
  refine Ex.al ?_
  refine Ex.mo ?_
  refine Ex.nil ?_
  refine X.seq ?_
  refine X.region ?_
  iterate 2 refine Ex.pu ?_
  refine Ex.ca (C_tactuskit_RunOf m nums 24 (by decide) (by decide) hr hnl) ?_
  refine Ex.pu ?_
  refine Ex.nil ?_
  refine X.seq ?_
  refine X.region ?_
  iterate 2 refine Ex.pu ?_
  refine Ex.mo ?_
  refine Ex.pu ?_
  refine Ex.nil ?_
  refine X.ret ?_
  refine RetQ.ret (.many (by decide) (.cons (.cellA rfl rfl rfl rfl ty23 (LeV.eq ?_)) (.cons (.tmp rfl (LeV.eq ?_)) .nil)))
  all_goals (first | rfl | (simp_all; done))
set_option maxHeartbeats 4000000 in
set_option maxRecDepth 100000 in
theorem C_tactuslaw13_ItemOf (nums : List Int) (n : Int) (hr : ∀ x, x ∈ nums → -9223372036854775808 ≤ x ∧ x ≤ 9223372036854775807) (hnl : nums.length ≤ maxLen) (hn : -9223372036854775808 ≤ n ∧ n ≤ 9223372036854775807) : Fn Tryz.prog 6 [intsA nums, iv n] (.bool true) := by
  have hm := C_tactuslaw13_made nums n hr hnl hn
  have hM := mMk_ck n
  generalize mMk n = m at hm hM
  have hck := roL_ck hM nums 24
  have hlen := roL_len m nums (most := 24) (by decide)
  generalize roL m nums 24 = l at hm hck hlen
  have hR := C_item_Rule m l (by omega)
  rw [hck, if_pos rfl] at hR
  have hml := mnsD_le m l
  have hpl := prL_len m l
  have hOf : ∀ k : Nat, ictE m l = 0 → (k : Int) < ictV m l → Fn Tryz.prog 25 [mnA m, sgsA l, iv (k : Int)] (.tup [intsA (iofD m l k), intsA (iofM m l k), iv 0]) := fun k h0 h1 => by
    have h := C_item_Of m l k (by omega)
    rw [iof_ok h0 h1] at h; exact h
  have hIt : ∀ k : Nat, ictE m l = 0 → (k : Int) < ictV m l → Fn Tryz.prog 18 [mnA m, sgsA l, intsA (iofD m l k), intsA (iofM m l k)] (.tup [itsA (itmV m l (iofD m l k) (iofM m l k)), iv 0]) := fun k h0 h1 => by
    have h := C_item_Items m l (iofD m l k) (iofM m l k) (by omega) (by rw [iofM_lk (iof_ok h0 h1)]; omega)
    rw [itm_ok hM hck (iof_ok h0 h1)] at h; exact h
  refine Fn.go Tryz.func6 Tryz.ntmps6 (fun g w d => ?_)
  refine X.seq ?_
  refine X.region ?_
  refine Ex.pu ?_
  refine Ex.nil ?_
  refine X.seq ?_
  refine X.region ?_
  refine Ex.ca C_tactuslaw13_ItemKnown ?_
  refine Ex.pu ?_
  refine Ex.nil ?_
  refine X.seq ?_
  refine X.region ?_
  iterate 2 refine Ex.pu ?_
  refine Ex.ca hm ?_
  iterate 3 refine Ex.pu ?_
  refine Ex.al ?_
  refine Ex.mo ?_
  refine Ex.pu ?_
  refine Ex.nil ?_
  refine X.seq ?_
  refine X.region ?_
  iterate 2 refine Ex.pu ?_
  refine Ex.ca (C_item_Count m l (by omega)) ?_
  iterate 5 refine Ex.pu ?_
  refine Ex.nil ?_
  refine X.seq ?_
  refine X.seq ?_
  refine X.region ?_
  iterate 2 refine Ex.pu ?_
  refine Ex.nil ?_
  refine X.cd rfl (fun hc1 => ?_) (fun hc1 => ?_)
  · have h15 := ict_15 hck hc1
    refine X.seq ?_
    refine X.region ?_
    refine Ex.pu ?_
    refine ExF.at 1 ?_
    refine ExF.pu ?_
    iterate 2 refine ExF.gi ?_
    refine ExF.done ?_
    iterate 2 refine Ex.pu ?_
    refine Ex.nil ?_
    refine X.ret ?_
    refine RetQ.ret (.one (.tmp rfl (LeV.eq ?_)))
    all_goals (rw [h15]; rfl)
  have hcb := ict_rng hM hc1
  have hZ1 := cmb_rule hM hck hc1
  obtain ⟨n0, hn0, hn1⟩ := hZ1
  refine X.skip ?_
  refine X.seq ?_
  refine X.region ?_
  iterate 2 refine Ex.pu ?_
  refine Ex.ca hR ?_
  iterate 7 refine Ex.pu ?_
  refine Ex.nil ?_
  refine X.seq ?_
  refine X.seq ?_
  refine X.region ?_
  iterate 2 refine Ex.pu ?_
  refine ExF.at 2 ?_
  refine ExF.pu ?_
  iterate 2 refine ExF.gi ?_
  iterate 2 refine ExF.pu ?_
  iterate 2 refine ExF.gi ?_
  refine ExF.done ?_
  refine Ex.pu ?_
  refine Ex.nil ?_
  refine X.cd rfl (fun hc2 => ?_) (fun hc2 => ?_)
  · omega
  refine X.skip ?_
  refine X.seq ?_
  refine X.region ?_
  refine Ex.pu ?_
  refine Ex.nil ?_
  refine X.seq ?_
  refine X.region ?_
  refine Ex.pu ?_
  refine Ex.nil ?_
  refine X.seq ?_
  refine X.seq ?_
  refine X.region ?_
  refine Ex.pu ?_
  refine Ex.nil ?_
  refine X.block ?_
  have hf00 : fnd n0 0 = 0 := by rw [fnd_eq]; rfl
  refine X.lp (ι := Nat) (fun (k : Nat) => [(5, .bool true), (6, .ptr 6 0 0 0), (7, sgsA l), (8, iv (ictV m l)), (10, intsA (ruleD m l)), (11, intsA (twos (prL m l).length)), (13, intsA (befC m l k)), (14, iv (fnd n0 k)), (15, iv (k : Int))]) (fun (k : Nat) => [(6, .box (mnE m) 23)]) (fun (k : Nat) => k ≤ (ictV m l).toNat) (fun (k : Nat) => (ictV m l).toNat - k) 0 (fun k hk => ?_)
  refine X.seq ?_
  refine X.seq ?_
  refine X.region ?_
  iterate 3 refine Ex.pu ?_
  refine Ex.nil ?_
  refine X.cd rfl (fun hc3 => ?_) (fun hc3 => ?_)
  · have hdl := iofD_lk (iof_ok hc1 hc3)
    have hpll := iofM_lk (iof_ok hc1 hc3)
    have hfr := fnd_rng n0 k
    have hup := befC_up hM hck hc1 hc3
    have hbf := befC_s m l k
    have hbl : ([] ++ iofD m l (k : Int) ++ iofM m l (k : Int)).length ≤ 4000000000 := by simp; omega
    refine X.skip ?_
    refine X.seq ?_
    refine X.block ?_
    refine X.seq ?_
    refine X.region ?_
    iterate 3 refine Ex.pu ?_
    refine Ex.ca (hOf k hc1 hc3) ?_
    iterate 7 refine Ex.pu ?_
    refine Ex.nil ?_
    refine X.seq ?_
    refine X.region ?_
    iterate 4 refine Ex.pu ?_
    refine Ex.ca (hIt k hc1 hc3) ?_
    iterate 5 refine Ex.pu ?_
    refine Ex.nil ?_
    refine X.seq ?_
    refine X.seq ?_
    refine X.region ?_
    iterate 2 refine Ex.pu ?_
    refine ExF.at 2 ?_
    refine ExF.pu ?_
    iterate 2 refine ExF.gi ?_
    refine ExF.done ?_
    refine Ex.pu ?_
    refine Ex.nil ?_
    refine X.cd rfl (fun hc4 => ?_) (fun hc4 => ?_)
    · (first | (simp at hc4; done) | omega)
    refine X.skip ?_
    refine X.seq ?_
    refine X.region ?_
    refine Ex.bs intE [] ?_
    refine Ex.pu ?_
    refine Ex.mo ?_
    refine Ex.pu ?_
    refine Ex.mo ?_
    refine Ex.pu ?_
    refine Ex.nil ?_
    refine X.seq ?_
    refine X.seq ?_
    refine X.imp (Imp.freeze (k := 86) rfl) ?_
    refine X.region ?_
    iterate 2 refine Ex.pu ?_
    refine ExF.at 2 ?_
    refine ExF.pu ?_
    iterate 2 refine ExF.gi ?_
    refine ExF.cg (C_tactuslaw13_less (befC m l k) ([] ++ iofD m l (k : Int) ++ iofM m l (k : Int)) hbl) ?_
    refine ExF.gi ?_
    refine ExF.done ?_
    refine Ex.pu ?_
    refine Ex.nil ?_
    refine X.cd rfl (fun hc5 => ?_) (fun hc5 => ?_)
    · rw [hup (by omega)] at hc5; simp at hc5
    refine X.skip ?_
    refine X.seq ?_
    refine X.region ?_
    iterate 2 refine Ex.pu ?_
    refine Ex.nil ?_
    refine X.seq ?_
    refine X.region ?_
    iterate 2 refine Ex.pu ?_
    refine Ex.ca (C_tactuskit_SameInts (iofD m l (k : Int)) (ruleD m l) (by omega)) ?_
    refine ExF.at 3 ?_
    refine ExF.pu ?_
    iterate 2 refine ExF.gi ?_
    refine ExF.cg (C_tactuskit_SameInts (iofM m l (k : Int)) (twos (prL m l).length) (by omega)) ?_
    refine ExF.done ?_
    refine Ex.pu ?_
    refine Ex.nil ?_
    refine X.cd rfl (fun hc6 => ?_) (fun hc6 => ?_)
    · have hfd := fnd_yes ((hn1 k hc3).1 hc6)
      refine X.region ?_
      iterate 3 refine Ex.pu ?_
      refine Ex.nil ?_
      refine X.region ?_
      iterate 3 refine Ex.pu ?_
      refine Ex.nil ?_
      refine X.bk (k + 1)
    · have hfd := fnd_no (fun e => by have := (hn1 k hc3).2 e; rcases hc6 with h | h; (exact h this.1); (exact h this.2))
      refine X.skip ?_
      refine X.region ?_
      iterate 3 refine Ex.pu ?_
      refine Ex.nil ?_
      refine X.bk (k + 1)
  · have hfin : fnd n0 k = 1 := by rw [fnd_eq, if_pos (by omega)]
    refine X.exit ?_
    refine X.seq ?_
    refine X.region ?_
    refine Ex.pu ?_
    refine ExF.at 1 ?_
    refine ExF.pu ?_
    iterate 2 refine ExF.gi ?_
    refine ExF.done ?_
    iterate 2 refine Ex.pu ?_
    refine Ex.nil ?_
    refine X.ret ?_
    refine RetQ.ret (.one (.tmp rfl (LeV.eq ?_)))
    all_goals (first | rfl | simp [hfin])
end Go.Rse
