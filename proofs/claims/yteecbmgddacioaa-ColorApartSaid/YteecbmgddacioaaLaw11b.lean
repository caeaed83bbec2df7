/-
  Walks: the statements on thirds, on other values, on pairs apart, on lists by number.
-/
import Derived.Test.YteecbmgddacioaaLaw11a
import Derived.Test.YteecbmgddacioaaCol1
import Derived.Test.YteecbmgddacioaaRun1
namespace Go.Rse
open Go Go.Proofs
set_option linter.unusedVariables false
set_option linter.unusedSimpArgs false
attribute [local irreducible] Pur StepA StepM Ex X ExG Fn Imp LeV LeB FnO It YStep
theorem C_mens_FullN {m : Mn} {v : Int} (hm : ckM m = 0) (h1 : 1 ≤ v) (h8 : v ≤ 8) : Fn Try.prog 26 [mnA m, iv v] (.tup [tmA (fullT m v), iv 0]) := C_mens_FullV hm h1 h8
theorem C_color_DurN {m : Mn} {v : Int} (hm : ckM m = 0) (h1 : 1 ≤ v) (h8 : v ≤ 8) : Fn Try.prog 62 [mnA m, iv v] (.tup [tmA (durT m v), iv 0]) := by
  have h := C_color_Dur m v
  rw [ckMV_0 hm h1 h8, if_pos rfl] at h; exact h
theorem C_T_3 : Fn Try.prog 23 [iv 3, iv 1] (tmA ⟨3, 1⟩) := by
  have h := C_tactuskit_T 3 1 (by omega) (by omega)
  rw [show gI 3 1 = 1 by decide +kernel] at h; exact h
theorem C_T_2 : Fn Try.prog 23 [iv 2, iv 1] (tmA ⟨2, 1⟩) := by
  have h := C_tactuskit_T 2 1 (by omega) (by omega)
  rw [show gI 2 1 = 1 by decide +kernel] at h; exact h
theorem C_span_Mul0 {a b : Tm} (h : mulE a b = 0) : Fn Try.prog 71 [tmA a, tmA b] (.tup [tmA (mulV a b), iv 0]) := by
  have := C_span_Mul a b; rw [h] at this; exact this
theorem C_span_Cmp0 {a b : Tm} (h : firstT [a, b] = 0) : Fn Try.prog 72 [tmA a, tmA b] (.tup [iv (cmpV a b), iv 0]) := by
  have := C_span_Compare a b; rw [h] at this; exact this
attribute [local irreducible] prL twos ofV ofE colN colE duE duV ckD rnL mMk mulV mulE cmpV firstT fullT durT noK nuK atV digP
theorem C_tactuslaw11_ColorThirds (n k : Int) (hn : -9223372036854775808 ≤ n ∧ n ≤ 9223372036854775807) (hk : -9223372036854775808 ≤ k ∧ k ≤ 9223372036854775807) : Fn Try.prog 14 [iv n, iv k] (.bool true) := by
  have hck := mMk_ck n
  have hM := C_tactuskit_Mens n hn
  generalize mMk n = m at hM hck
  have hth := th_facts (m := m) (v := 1 + k % 8) hck (by omega) (by omega)
  obtain ⟨t1, t2, t3, t4, t5, t6, t7⟩ := hth
  refine Fn.go Try.func14 Try.ntmps14 (fun g w d => ?_)
  refine X.seq ?_
  refine X.region ?_
  refine Ex.pu ?_
  refine Ex.nil ?_
  refine X.seq ?_
  refine X.region ?_
  refine Ex.pu ?_
  refine Ex.ca hM ?_
  refine Ex.pu ?_
  refine Ex.ca (C_tactuskit_Mod k 8 hk (by omega)) ?_
  refine Ex.pu ?_
  refine Ex.al ?_
  refine Ex.mo ?_
  refine Ex.pu ?_
  refine Ex.nil ?_
  refine X.seq ?_
  refine X.region ?_
  iterate 2 refine Ex.pu ?_
  refine Ex.ca (C_color_DurN (v := 1 + k % 8) hck (by omega) (by omega)) ?_
  iterate 3 refine Ex.pu ?_
  refine Ex.al ?_
  refine Ex.mo ?_
  refine Ex.pu ?_
  refine Ex.nil ?_
  refine X.seq ?_
  refine X.region ?_
  iterate 2 refine Ex.pu ?_
  refine Ex.ca (C_mens_FullN (v := 1 + k % 8) hck (by omega) (by omega)) ?_
  iterate 3 refine Ex.pu ?_
  refine Ex.al ?_
  refine Ex.mo ?_
  refine Ex.pu ?_
  refine Ex.nil ?_
  refine X.seq ?_
  refine X.dw [11,36,37,38,39,40,41] [0,0,3,7,15,15,0,95,255] mo ?_
  refine ChM.pu ?_
  refine ChM.ca C_T_3 ?_
  refine ChM.ca (C_span_Mul0 t1) ?_
  iterate 3 refine ChM.pu ?_
  refine ChM.step rfl rfl rfl (A_alloc (k := 11) zc26) rfl ?_
  refine ChM.ltJ 5 ⟨[(5, .ptr 5 0 0 0), (6, iv (1 + k % 8)), (7, .ptr 7 0 0 0), (8, iv 0), (9, .ptr 9 0 0 0), (10, iv 0), (11, .ptr 11 0 0 0), (12, iv 0)], [(5, .box (mnE m) 23), (7, .box (tmE (durT m (1 + k % 8))) 26), (9, .box (tmE (fullT m (1 + k % 8))) 26), (11, .box (tmE (mulV (durT m (1 + k % 8)) ⟨3, 1⟩)) 26)]⟩ (fun Q hQ => ?_) (fun Q hQ => ?_) ?_
  · refine Ex.mo ?_
    refine Ex.pu ?_
    exact Ex.imp Imp.ax hQ
  · refine Ex.mo ?_
    iterate 2 refine Ex.pu ?_
    exact Ex.imp Imp.ax hQ
  refine Ex.nil ?_
  refine X.seq ?_
  refine X.dw [13,42,43,44,45,46,47] [0,0,3,7,15,15,0,95,255] mo ?_
  refine ChM.pu ?_
  refine ChM.ca C_T_2 ?_
  refine ChM.ca (C_span_Mul0 t2) ?_
  iterate 3 refine ChM.pu ?_
  refine ChM.step rfl rfl rfl (A_alloc (k := 13) zc26) rfl ?_
  refine ChM.ltJ 5 ⟨[(5, .ptr 5 0 0 0), (6, iv (1 + k % 8)), (7, .ptr 7 0 0 0), (8, iv 0), (9, .ptr 9 0 0 0), (10, iv 0), (11, .ptr 11 0 0 0), (12, iv 0), (13, .ptr 13 0 0 0), (14, iv 0)], [(5, .box (mnE m) 23), (7, .box (tmE (durT m (1 + k % 8))) 26), (9, .box (tmE (fullT m (1 + k % 8))) 26), (11, .box (tmE (mulV (durT m (1 + k % 8)) ⟨3, 1⟩)) 26), (13, .box (tmE (mulV (fullT m (1 + k % 8)) ⟨2, 1⟩)) 26)]⟩ (fun Q hQ => ?_) (fun Q hQ => ?_) ?_
  · refine Ex.mo ?_
    refine Ex.pu ?_
    exact Ex.imp Imp.ax hQ
  · refine Ex.mo ?_
    iterate 2 refine Ex.pu ?_
    exact Ex.imp Imp.ax hQ
  refine Ex.nil ?_
  refine X.seq ?_
  refine X.seq ?_
  refine X.region ?_
  iterate 2 refine Ex.pu ?_
  refine ExF.at 2 ?_
  refine ExF.pu ?_
  iterate 2 refine ExF.gi ?_
  iterate 2 refine ExF.pu ?_
  iterate 2 refine ExF.gi ?_
  iterate 2 refine ExF.pu ?_
  iterate 2 refine ExF.gi ?_
  refine ExF.done ?_
  refine Ex.pu ?_
  refine Ex.nil ?_
  refine X.cd rfl (fun hc1 => ?_) (fun hc1 => ?_)
  · simp at hc1
  refine X.skip ?_
  refine X.seq ?_
  refine X.region ?_
  iterate 2 refine Ex.pu ?_
  refine Ex.ca (C_span_Cmp0 t3) ?_
  iterate 5 refine Ex.pu ?_
  refine Ex.nil ?_
  refine X.seq ?_
  refine X.region ?_
  iterate 2 refine Ex.pu ?_
  refine Ex.ca (C_span_Cmp0 t4) ?_
  iterate 5 refine Ex.pu ?_
  refine Ex.nil ?_
  refine X.seq ?_
  refine X.dw [17,74,75,76] [0,0,3,7] mo ?_
  refine ChM.pu ?_
  refine ChM.ca C_tactuslaw11_half ?_
  iterate 2 refine ChM.pu ?_
  refine ChM.tl ?_
  refine Ex.nil ?_
  refine X.seq ?_
  refine X.region ?_
  iterate 2 refine Ex.pu ?_
  refine ExF.at 2 ?_
  refine ExF.pu ?_
  iterate 2 refine ExF.gi ?_
  refine ExF.cg (C_tactuskit_Parts m (1 + k % 8)) ?_
  refine ExF.gi ?_
  refine ExF.done ?_
  iterate 2 refine Ex.pu ?_
  refine Ex.nil ?_
  refine X.seq ?_
  refine X.region ?_
  iterate 2 refine Ex.pu ?_
  refine ExF.at 2 ?_
  refine ExF.pu ?_
  iterate 2 refine ExF.gi ?_
  iterate 2 refine ExF.pu ?_
  iterate 2 refine ExF.gi ?_
  iterate 2 refine ExF.pu ?_
  iterate 2 refine ExF.gi ?_
  iterate 2 refine ExF.pu ?_
  iterate 10 refine ExF.gi ?_
  iterate 2 refine ExF.pu ?_
  refine ExF.cg C_tactuslaw11_awake ?_
  refine ExF.done ?_
  iterate 2 refine Ex.pu ?_
  refine Ex.nil ?_
  refine X.ret ?_
  refine RetQ.ret (.one (.tmp rfl (LeV.eq ?_)))
  all_goals ((simp [t5, t6]; simpa using t7))
set_option maxHeartbeats 2000000 in
theorem C_tactuslaw11_ColorNeutral (n : Int) (nums o : List Int) (hn : -9223372036854775808 ≤ n ∧ n ≤ 9223372036854775807) (hr : ∀ x, x ∈ nums → -9223372036854775808 ≤ x ∧ x ≤ 9223372036854775807) (hnl : nums.length ≤ maxLen) (ho : ∀ x, x ∈ o → -9223372036854775808 ≤ x ∧ x ≤ 9223372036854775807) (hol : o.length ≤ maxLen) : Fn Try.prog 12 [iv n, intsA nums, intsA o] (.bool true) := by
  have hck := mMk_ck n
  have hM := C_tactuskit_Mens n hn
  generalize mMk n = m at hM hck
  have hR := C_tactuskit_Run m nums 16 (by omega) (by omega) hr hnl
  have hrl := rnL_len m nums (most := 16) (by omega)
  have hgr := rnL_gr m nums 16
  generalize rnL m nums 16 = l at hR hrl hgr
  have hcd := gr_ck hck hgr
  have hpl := prL_len m l
  have hq0 : l = nuK l o 0 := by unfold nuK; rfl
  refine Fn.go Try.func12 Try.ntmps12 (fun g w d => ?_)
  refine X.seq ?_
  refine X.region ?_
  refine Ex.pu ?_
  refine Ex.nil ?_
  refine X.seq ?_
  refine X.region ?_
  refine Ex.pu ?_
  refine Ex.ca hM ?_
  refine Ex.al ?_
  refine Ex.mo ?_
  refine Ex.nil ?_
  refine X.seq ?_
  refine X.region ?_
  iterate 2 refine Ex.pu ?_
  refine Ex.ca hR ?_
  refine Ex.pu ?_
  refine Ex.nil ?_
  refine X.seq ?_
  refine X.region ?_
  refine Ex.pu ?_
  refine Ex.callO' [(3, 21)] (C_tactuskit_OwnSignsO l (by omega)) rfl rfl rfl (LeL.refl _) rfl rfl trivial rfl rfl rfl rfl ?_
  refine Ex.pu ?_
  refine Ex.nil ?_
  refine X.seq ?_
  refine X.seq ?_
  refine X.region ?_
  refine Ex.pu ?_
  refine Ex.nil ?_
  refine X.block ?_
  refine X.lp (ι := Nat) (fun (k : Nat) => [(7, .ptr 7 0 0 0), (8, sgsA l), (9, .own 21), (10, iv (k : Int)), (2, intsA o)]) (fun (k : Nat) => [(7, .box (mnE m) 23), (21, .row sgE (nuK l o k) 64 17)]) (fun (k : Nat) => k ≤ l.length) (fun (k : Nat) => l.length - k) 0 (fun k hk => ?_) (h0 := by
    exact Imp.ax)
  refine X.seq ?_
  refine X.seq ?_
  refine X.region ?_
  iterate 4 refine Ex.pu ?_
  refine Ex.nil ?_
  refine X.cd rfl (fun hc1 => ?_) (fun hc1 => ?_)
  · obtain ⟨s, hs⟩ : ∃ s, l[k]? = some s := ⟨_, List.getElem?_eq_getElem (by have := nuK_len l o k; omega)⟩
    have hlen := nuK_len l o k
    have hs2 : (nuK l o k)[(k : Int).toNat]? = some s := by rw [show (k : Int).toNat = k by omega, nuK_ge l o k k (Nat.le_refl _)]; exact hs
    have hs3 : (nuK l o k)[k]? = some s := by rw [nuK_ge l o k k (Nat.le_refl _)]; exact hs
    have hat := atV_rng ho (k : Int)
    refine X.skip ?_
    refine X.seq ?_
    refine X.block ?_
    refine X.seq ?_
    refine X.region ?_
    iterate 6 refine Ex.pu ?_
    refine ExF.at 6 ?_
    refine ExF.pu ?_
    iterate 6 refine ExF.gi ?_
    refine ExF.done ?_
    refine Ex.pu ?_
    refine Ex.nil ?_
    refine X.cd rfl (fun hc2 => ?_) (fun hc2 => ?_)
    · have hrow := nuK_yes (o := o) hs hc2
      refine X.region ?_
      iterate 4 refine Ex.pu ?_
      refine Ex.ca (C_tactuskit_At o (k : Int)) ?_
      refine Ex.ca (C_tactuskit_Mod (atV o (k : Int)) 8 hat (by omega)) ?_
      iterate 3 refine Ex.pu ?_
      refine Ex.mo (hs := M_store_rowF (n := 1) s (nuS s (1 + atV o (k : Int) % 8)) rfl rfl hs3 (fun _ => rfl) (by decide) rfl rfl rfl (by decide) rfl rfl rfl TyK.h) ?_
      refine Ex.nil ?_
      refine X.region ?_
      iterate 3 refine Ex.pu ?_
      refine Ex.nil ?_
      refine X.bk (k + 1) (hI := Imp.ax)
    · have hrow := nuK_no (o := o) hs hc2
      refine X.skip ?_
      refine X.region ?_
      iterate 3 refine Ex.pu ?_
      refine Ex.nil ?_
      refine X.bk (k + 1) (hI := Imp.ax)
  · have hlen := nuK_len l o k
    have hkl : k = l.length := by omega
    subst hkl
    refine X.exit ?_
    refine X.seq ?_
    refine X.region ?_
    iterate 2 refine Ex.pu ?_
    refine Ex.co [(39, 39)] (C_color_Pairs' m l (by omega)) ?_
    iterate 5 refine Ex.pu ?_
    refine Ex.nil ?_
    refine X.seq ?_
    refine X.imp (Imp.freeze (k := 39) rfl) ?_
    refine X.imp (Imp.freeze (k := 21) rfl) ?_
    refine X.region ?_
    iterate 2 refine Ex.pu ?_
    refine Ex.co [(39, 40)] (C_color_Pairs' m (nuK l o l.length) (by rw [nuK_len]; omega)) ?_
    iterate 5 refine Ex.pu ?_
    refine Ex.nil ?_
    refine X.seq ?_
    refine X.imp (Imp.freeze (k := 40) rfl) ?_
    have hcd2 := gr_ck hck (nuK_gr o l.length hgr)
    have hSI : Fn Try.prog 37 [intsA (prL m l), intsA (prL m (nuK l o l.length))] (.bool true) := by
      rw [prL_sim (nuK_sim l o l.length) hcd hcd2]; exact C_ints_eq _ (by omega)
    refine X.region ?_
    iterate 2 refine Ex.pu ?_
    refine ExF.at 2 ?_
    refine ExF.pu ?_
    iterate 2 refine ExF.gi ?_
    iterate 2 refine ExF.pu ?_
    iterate 2 refine ExF.gi ?_
    refine ExF.cg hSI ?_
    iterate 2 refine ExF.pu ?_
    refine ExF.cg C_tactuslaw11_awake ?_
    refine ExF.done ?_
    iterate 2 refine Ex.pu ?_
    refine Ex.nil ?_
    refine X.ret ?_
    refine RetQ.ret (.one (.tmp rfl (LeV.eq ?_)))
    all_goals (simp [hcd, hcd2])
set_option maxHeartbeats 2000000 in
theorem C_tactuslaw11_ColorLists (n : Int) (nums : List Int) (a b : Int) (hn : -9223372036854775808 ≤ n ∧ n ≤ 9223372036854775807) (hr : ∀ x, x ∈ nums → -9223372036854775808 ≤ x ∧ x ≤ 9223372036854775807) (hnl : nums.length ≤ maxLen) (ha : -9223372036854775808 ≤ a ∧ a ≤ 9223372036854775807) (hb : -9223372036854775808 ≤ b ∧ b ≤ 9223372036854775807) : Fn Try.prog 17 [iv n, intsA nums, iv a, iv b] (.bool true) := by
  have hck := mMk_ck n
  have hM := C_tactuskit_Mens n hn
  generalize mMk n = m at hM hck
  have hR := C_tactuskit_Run m nums 16 (by omega) (by omega) hr hnl
  have hrl := rnL_len m nums (most := 16) (by omega)
  have hgr := rnL_gr m nums 16
  generalize rnL m nums 16 = l at hR hrl hgr
  have hcd := gr_ck hck hgr
  have hpl := prL_len m l
  refine Fn.go Try.func17 Try.ntmps17 (fun g w d => ?_)
  refine X.seq ?_
  refine X.region ?_
  refine Ex.pu ?_
  refine Ex.nil ?_
  refine X.seq ?_
  refine X.region ?_
  refine Ex.pu ?_
  refine Ex.ca hM ?_
  refine Ex.al ?_
  refine Ex.mo ?_
  refine Ex.nil ?_
  refine X.seq ?_
  refine X.region ?_
  iterate 2 refine Ex.pu ?_
  refine Ex.ca hR ?_
  refine Ex.pu ?_
  refine Ex.nil ?_
  refine X.seq ?_
  refine X.region ?_
  iterate 2 refine Ex.pu ?_
  refine Ex.ca (C_color_Count m l (by omega)) ?_
  iterate 5 refine Ex.pu ?_
  refine Ex.nil ?_
  refine X.seq ?_
  refine X.region ?_
  iterate 2 refine Ex.pu ?_
  refine Ex.ca (C_color_Rule m l (by omega)) ?_
  iterate 5 refine Ex.pu ?_
  refine Ex.nil ?_
  refine X.seq ?_
  refine X.seq ?_
  refine X.region ?_
  iterate 2 refine Ex.pu ?_
  refine Ex.nil ?_
  refine X.cd rfl (fun hc1 => ?_) (fun hc1 => ?_)
  · refine X.seq ?_
    refine X.region ?_
    refine Ex.ca C_tactuslaw11_awake ?_
    refine Ex.pu ?_
    refine Ex.nil ?_
    refine X.ret ?_
    refine RetQ.ret (.one (.tmp rfl (LeV.eq ?_)))
    all_goals (rfl)
  have hE : colE m l = 0 := by
    unfold colE at hc1 ⊢
    rw [if_pos hcd] at hc1 ⊢
    split at hc1
    · exact absurd rfl hc1
    · rw [if_neg (by assumption)]
  have hz := colE_z hE
  have hN := hz.2.2
  have hb2 := pow2_tab hz.2.1
  rw [← hN] at hb2
  have hOf : ∀ i : Int, 0 ≤ i ∧ i < colN m l → Fn Try.prog 84 [mnA m, sgsA l, iv i] (.tup [intsA (digP i (prL m l).length (prL m l).length), iv 0]) := fun i hi => by
    have h := C_color_Of m l i (by omega)
    rw [← ofV_2 hE (by omega), ← ofE_2 hE (by omega)] at h; exact h
  have ra : 0 ≤ a % colN m l ∧ a % colN m l < colN m l := ⟨Int.emod_nonneg _ (by omega), Int.emod_lt_of_pos _ (by omega)⟩
  have rb : 0 ≤ b % colN m l ∧ b % colN m l < colN m l := ⟨Int.emod_nonneg _ (by omega), Int.emod_lt_of_pos _ (by omega)⟩
  have hS1 : Fn Try.prog 37 [intsA (digP (a % colN m l) (prL m l).length (prL m l).length), intsA (digP (b % colN m l) (prL m l).length (prL m l).length)] (.bool (decide (a % colN m l = b % colN m l))) := by
    have h := C_tactuskit_SameInts (digP (a % colN m l) (prL m l).length (prL m l).length) (digP (b % colN m l) (prL m l).length (prL m l).length) (by rw [digP_len]; omega)
    rw [decide_eq_decide.2 (digP_iff hz.2.1 (by rw [← hN]; exact ra) (by rw [← hN]; exact rb))] at h; exact h
  have hS2 : Fn Try.prog 37 [intsA (digP (colN m l - 1) (prL m l).length (prL m l).length), intsA (twos (prL m l).length)] (.bool true) := by
    rw [hN, digP_top hz.2.1]; exact C_ints_eq _ (by rw [twos_len]; omega)
  refine X.skip ?_
  refine X.seq ?_
  refine X.seq ?_
  refine X.region ?_
  iterate 2 refine Ex.pu ?_
  refine ExF.at 2 ?_
  refine ExF.pu ?_
  iterate 2 refine ExF.gi ?_
  iterate 2 refine ExF.pu ?_
  iterate 2 refine ExF.gi ?_
  refine ExF.done ?_
  refine Ex.pu ?_
  refine Ex.nil ?_
  refine X.cd rfl (fun hc2 => ?_) (fun hc2 => ?_)
  · (rw [hE, hcd] at hc2; first | omega | (simp at hc2; omega))
  refine X.skip ?_
  refine X.seq ?_
  refine X.region ?_
  iterate 2 refine Ex.pu ?_
  refine Ex.ca (C_tactuskit_Mod a (colN m l) ha (by omega)) ?_
  iterate 2 refine Ex.pu ?_
  refine Ex.ca (C_tactuskit_Mod b (colN m l) hb (by omega)) ?_
  iterate 2 refine Ex.pu ?_
  refine Ex.nil ?_
  refine X.seq ?_
  refine X.region ?_
  iterate 3 refine Ex.pu ?_
  refine Ex.ca (hOf (a % colN m l) ⟨Int.emod_nonneg _ (by omega), Int.emod_lt_of_pos _ (by omega)⟩) ?_
  iterate 5 refine Ex.pu ?_
  refine Ex.nil ?_
  refine X.seq ?_
  refine X.region ?_
  iterate 3 refine Ex.pu ?_
  refine Ex.ca (hOf (b % colN m l) ⟨Int.emod_nonneg _ (by omega), Int.emod_lt_of_pos _ (by omega)⟩) ?_
  iterate 5 refine Ex.pu ?_
  refine Ex.nil ?_
  refine X.seq ?_
  refine X.region ?_
  iterate 4 refine Ex.pu ?_
  refine Ex.ca (hOf (colN m l - 1) ⟨by omega, by omega⟩) ?_
  iterate 5 refine Ex.pu ?_
  refine Ex.nil ?_
  refine X.seq ?_
  refine X.region ?_
  iterate 2 refine Ex.pu ?_
  refine ExF.at 2 ?_
  refine ExF.pu ?_
  iterate 2 refine ExF.gi ?_
  iterate 2 refine ExF.pu ?_
  iterate 2 refine ExF.gi ?_
  iterate 2 refine ExF.pu ?_
  iterate 2 refine ExF.gi ?_
  refine ExF.cg hS1 ?_
  iterate 4 refine ExF.gi ?_
  iterate 2 refine ExF.pu ?_
  iterate 2 refine ExF.gi ?_
  refine ExF.cg hS2 ?_
  iterate 2 refine ExF.pu ?_
  refine ExF.cg C_tactuslaw11_awake ?_
  refine ExF.done ?_
  iterate 2 refine Ex.pu ?_
  refine Ex.nil ?_
  refine X.ret ?_
  refine RetQ.ret (.one (.tmp rfl (LeV.eq ?_)))
  all_goals (simp [hE, hcd])
end Go.Rse
