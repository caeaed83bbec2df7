/-
  Walks: the run that a text of the chapter is.
-/
import Derived.Test.YtfiiobachmglpaaGreatDoorSRn0
set_option linter.unusedSimpArgs false
set_option linter.unusedVariables false
namespace Go.Rse
open Go Go.Proofs
theorem tx_r {S S2 : List Sg × Bool × Bool} {b : Int} (h : S2 = txS S b) (hb : b = 114) : S.1 = S2.1 /\ true = S2.2.1 /\ S.2.2 = S2.2.2 := by subst h; unfold txS; rw [if_pos hb]; exact ⟨rfl, rfl, rfl⟩
theorem tx_c {S S2 : List Sg × Bool × Bool} {b : Int} (h : S2 = txS S b) (ha : ¬ b = 114) (hb : b = 42) : S.1 = S2.1 /\ S.2.1 = S2.2.1 /\ true = S2.2.2 := by subst h; unfold txS; rw [if_neg ha, if_pos hb]; exact ⟨rfl, rfl, rfl⟩
theorem tx_d {S S2 : List Sg × Bool × Bool} {b : Int} (h : S2 = txS S b) (ha : ¬ b = 114) (hc : ¬ b = 42) (hb : b = 46) : S.1 ++ [{ (default : Sg) with Kind := 3 }] = S2.1 /\ false = S2.2.1 /\ false = S2.2.2 := by subst h; unfold txS; rw [if_neg ha, if_neg hc, if_pos hb]; exact ⟨rfl, rfl, rfl⟩
theorem tx_b {S S2 : List Sg × Bool × Bool} {b : Int} (h : S2 = txS S b) (ha : ¬ b = 114) (hc : ¬ b = 42) (hd : ¬ b = 46) (hb : b = 32) : S.1 = S2.1 /\ false = S2.2.1 /\ false = S2.2.2 := by subst h; unfold txS; rw [if_neg ha, if_neg hc, if_neg hd, if_pos hb]; exact ⟨rfl, rfl, rfl⟩
theorem tx_g {S S2 : List Sg × Bool × Bool} {b : Int} (h : S2 = txS S b) (ha : ¬ b = 114) (hc : ¬ b = 42) (hd : ¬ b = 46) (hb : ¬ b = 32) : S.1 ++ [txG b S.2.1 S.2.2] = S2.1 /\ false = S2.2.1 /\ false = S2.2.2 := by subst h; unfold txS; rw [if_neg ha, if_neg hc, if_neg hd, if_neg hb]; exact ⟨rfl, rfl, rfl⟩
theorem tx_let (k : Nat) (h : ((k : Int)).toNat < (⟨#[88, 76, 66, 83, 77, 81, 70, 90]⟩ : ByteArray).size) : (((⟨#[88, 76, 66, 83, 77, 81, 70, 90]⟩ : ByteArray)[((k : Int)).toNat]'h).toNat : Int) = txT.getD k 0 := by
 have h8 : k < 8 := by
  rw [Int.toNat_natCast] at h; exact h
 have key : ∀ j : Fin 8, (((⟨#[88, 76, 66, 83, 77, 81, 70, 90]⟩ : ByteArray)[j.val]'j.isLt).toNat : Int) = txT.getD j.val 0 := by decide
 have := key ⟨k, h8⟩
 simpa using this
theorem txV_t {b : Int} {k : Nat} (h : txT.getD k 0 = b) : txV b (k + 1) = (k : Int) + 1 := by
 show (if txT.getD k 0 = b then (k : Int) + 1 else txV b k) = _
 rw [if_pos h]
theorem txV_f {b : Int} {k : Nat} (h : ¬ txT.getD k 0 = b) : txV b (k + 1) = txV b k := by
 show (if txT.getD k 0 = b then (k : Int) + 1 else txV b k) = _
 rw [if_neg h]
theorem txG_t {b : Int} {r c : Bool} (h : r = true) : txG b r c = ⟨2, txV b 8, 0, 0, false, 0, false, false, ⟨0, 0, 0, 0⟩, false, 0, 0, 0, 0⟩ := by unfold txG; rw [if_pos h]; rfl
theorem txG_f {b : Int} {r c : Bool} (h : r = false) : txG b r c = ⟨1, txV b 8, 0, 0, c, 0, false, false, ⟨0, 0, 0, 0⟩, false, 0, 0, 0, 0⟩ := by unfold txG; rw [if_neg (by rw [h]; decide)]; rfl
theorem txD_e : ({ (default : Sg) with Kind := 3 } : Sg) = ⟨3, 0, 0, 0, false, 0, false, false, ⟨0, 0, 0, 0⟩, false, 0, 0, 0, 0⟩ := rfl
theorem txV_0 (b : Int) : txV b 0 = 0 := rfl
attribute [local irreducible] txK txB txS txV txG
attribute [local irreducible] Pur StepA StepM Ex X ExG Fn Imp LeV LeB FnO It YStep FnW FnOW FnP FnD
set_option maxHeartbeats 4000000 in
theorem C_tactuslaw17_run (s : ByteArray) (hl : s.size <= 1000) : Fn Tryz.prog 31 [.str s] (sgsA (txK (txB s) s.size).1) := by
 refine Fn.go Tryz.func31 Tryz.ntmps31 (fun g w d => ?_)
 apply X.sr
 refine Ex.pu ?_
 apply Ex.ns
 refine Ex.pu ?_
 apply Ex.ns
 iterate 2 refine Ex.pu ?_
 apply Ex.nil
 apply X.seq
 apply X.seq
 refine X.imp (Imp.mkrow sgE 67 17 3 30 rfl rfl) ?_
 have hz0 : [] = (txK (txB s) 0).1 := by unfold txK; simp
 have hz1 : false = (txK (txB s) 0).2.1 := by unfold txK; simp
 have hz2 : false = (txK (txB s) 0).2.2 := by unfold txK; simp
 apply X.region
 refine Ex.pu ?_
 apply Ex.nil
 apply X.block
 refine X.lp (ι := Nat) (fun (n : Nat) => [(0, .str s), (3, .own 30), (4, .bool (txK (txB s) n).2.1), (5, .bool (txK (txB s) n).2.2), (6, iv (n : Int))]) (fun (n : Nat) => [(30, .row sgE (txK (txB s) n).1 67 17)]) (fun (n : Nat) => n <= s.size) (fun (n : Nat) => s.size - n) 0 (fun n hk => ?_) (h0 := by
  exact Imp.ax)
 apply X.seq
 apply X.sr
 iterate 2 refine Ex.pu ?_
 refine Ex.pu (hs := by exact P_len_strV Tryz.underlying9 rfl) ?_
 refine Ex.pu ?_
 apply Ex.nil
 refine X.cd rfl (fun hc1 => ?_) (fun hc1 => ?_)
 ·have hns : n < s.size := by omega
  have hb := tx_at hns
  have hst := txK_s hb
  have hkl := txK_len (txB s) n
  have hv0 := txV_0 ((s[n]'hns).toNat : Int)
  apply X.skip
  apply X.seq
  apply X.block
  apply X.seq
  apply X.sr
  iterate 2 refine Ex.pu ?_
  refine Ex.pu (x := .int .u8 ((s[n]'hns).toNat : Int)) (hs := by exact P_index_strV (s := s) (i := (n : Int)) Tryz.underlying9 rfl rfl (by omega) (by simpa using hns)) ?_
  apply Ex.nil
  apply X.block
  apply X.sr
  iterate 2 refine Ex.pu ?_
  apply Ex.nil
  refine X.cd rfl (fun hc2 => ?_) (fun hc2 => ?_)
  ·have hZ1 := tx_r hst hc2
   obtain ⟨q1, q2, q3⟩ := hZ1
   apply X.sr
   refine Ex.pu ?_
   apply Ex.nil
   apply X.exit
   apply X.region
   iterate 3 refine Ex.pu ?_
   apply Ex.nil
   refine X.bk (n + 1) (hI := Imp.ax)
  apply X.sr
  iterate 2 refine Ex.pu ?_
  apply Ex.nil
  refine X.cd rfl (fun hc3 => ?_) (fun hc3 => ?_)
  ·have hZ2 := tx_c hst hc2 hc3
   obtain ⟨q1, q2, q3⟩ := hZ2
   apply X.sr
   refine Ex.pu ?_
   apply Ex.nil
   apply X.exit
   apply X.region
   iterate 3 refine Ex.pu ?_
   apply Ex.nil
   refine X.bk (n + 1) (hI := Imp.ax)
  apply X.sr
  iterate 2 refine Ex.pu ?_
  apply Ex.nil
  refine X.cd rfl (fun hc4 => ?_) (fun hc4 => ?_)
  ·have hZ3 := tx_d hst hc2 hc3 hc4
   obtain ⟨q1, q2, q3⟩ := hZ3
   rw [txD_e] at q1
   apply X.region
   iterate 2 refine Ex.pu ?_
   refine Ex.bs sgE [⟨_, _, _, _, _, _, _, _, ⟨_, _, _, _⟩, _, _, _, _, _⟩] ?_
   refine Ex.mo ?_
   refine Ex.pu ?_
   apply Ex.nil
   apply X.region
   iterate 2 refine Ex.pu ?_
   apply Ex.nil
   apply X.region
   iterate 3 refine Ex.pu ?_
   apply Ex.nil
   refine X.bk (n + 1) (hI := Imp.ax)
  ·apply X.sr
   iterate 2 refine Ex.pu ?_
   apply Ex.nil
   refine X.cd rfl (fun hc5 => ?_) (fun hc5 => ?_)
   ·have hZ4 := tx_b hst hc2 hc3 hc4 hc5
    obtain ⟨q1, q2, q3⟩ := hZ4
    apply X.skip
    apply X.region
    iterate 2 refine Ex.pu ?_
    apply Ex.nil
    apply X.region
    iterate 3 refine Ex.pu ?_
    apply Ex.nil
    refine X.bk (n + 1) (hI := Imp.ax)
   ·have hZ5 := tx_g hst hc2 hc3 hc4 hc5
    obtain ⟨q1, q2, q3⟩ := hZ5
    apply X.sr
    refine Ex.pu ?_
    apply Ex.nil
    apply X.seq
    apply X.sr
    refine Ex.pu ?_
    apply Ex.nil
    apply X.block
    refine X.lp (ι := Nat) (fun (k : Nat) => [(0, .str s), (3, .own 30), (4, .bool (txK (txB s) n).2.1), (5, .bool (txK (txB s) n).2.2), (6, iv (n : Int)), (7, iv (txV ((s[n]'hns).toNat : Int) k)), (8, iv (k : Int))]) (fun (k : Nat) => [(30, .row sgE (txK (txB s) n).1 67 17)]) (fun (k : Nat) => k <= 8) (fun (k : Nat) => 8 - k) 0 (fun k hk => ?_) (h0 := by
     exact Imp.ax)
    apply X.seq
    apply X.sr
    iterate 2 refine Ex.pu ?_
    apply Ex.nil
    refine X.cd rfl (fun hc6 => ?_) (fun hc6 => ?_)
    ·have hle := tx_let k (by show ((k : Int)).toNat < 8; omega)
     apply X.skip
     apply X.seq
     apply X.block
     apply X.seq
     refine X.dw [23,24,25,26,27,28] [0,1,0,0,12,31] mo ?_
     refine ChM.pu ?_
     refine ChM.pu ?_ (hs := by exact P_index_strV (i := (k : Int)) Tryz.underlying9 rfl rfl (by omega) (by show ((k : Int)).toNat < 8; omega))
     iterate 2 refine ChM.pu ?_
     refine ChM.pu ?_ (hs := by exact P_index_strV (s := s) (i := (n : Int)) Tryz.underlying9 rfl rfl (by omega) (by simpa using hns))
     refine ChM.pu ?_
     refine ChM.tl ?_
     apply Ex.nil
     refine X.cd rfl (fun hc7 => ?_) (fun hc7 => ?_)
     ·have hvt : txV ((s[n]'hns).toNat : Int) (k + 1) = (k : Int) + 1 := txV_t (hle.symm.trans hc7)
      apply X.region
      iterate 3 refine Ex.pu ?_
      apply Ex.nil
      apply X.region
      iterate 3 refine Ex.pu ?_
      apply Ex.nil
      refine X.bk (k + 1) (hI := Imp.ax)
     ·have hvt : txV ((s[n]'hns).toNat : Int) (k + 1) = txV ((s[n]'hns).toNat : Int) k := txV_f (fun e => hc7 (hle.trans e))
      apply X.skip
      apply X.region
      iterate 3 refine Ex.pu ?_
      apply Ex.nil
      refine X.bk (k + 1) (hI := Imp.ax)
    ·obtain rfl : k = 8 := by omega
     apply X.exit
     apply X.sr
     iterate 3 refine Ex.pu ?_
     refine Ex.al ?_
     refine Ex.mo ?_
     apply Ex.nil
     apply X.seq
     apply X.sr
     refine Ex.pu ?_
     apply Ex.nil
     refine X.cd rfl (fun hc8 => ?_) (fun hc8 => ?_)
     ·rw [txG_t (by simpa using hc8)] at q1
      apply X.region
      iterate 2 refine Ex.pu ?_
      refine Ex.mo ?_
      apply Ex.nil
      apply X.region
      iterate 2 refine Ex.pu ?_
      refine Ex.bs sgE [⟨_, _, _, _, _, _, _, _, ⟨_, _, _, _⟩, _, _, _, _, _⟩] ?_
      refine Ex.mo ?_
      refine Ex.pu ?_
      apply Ex.nil
      apply X.region
      iterate 2 refine Ex.pu ?_
      apply Ex.nil
      apply X.region
      iterate 3 refine Ex.pu ?_
      apply Ex.nil
      refine X.bk (n + 1) (hI := Imp.ax)
     ·rw [txG_f (by simpa using hc8)] at q1
      apply X.skip
      apply X.region
      iterate 2 refine Ex.pu ?_
      refine Ex.bs sgE [⟨_, _, _, _, _, _, _, _, ⟨_, _, _, _⟩, _, _, _, _, _⟩] ?_
      refine Ex.mo ?_
      refine Ex.pu ?_
      apply Ex.nil
      apply X.region
      iterate 2 refine Ex.pu ?_
      apply Ex.nil
      apply X.region
      iterate 3 refine Ex.pu ?_
      apply Ex.nil
      refine X.bk (n + 1) (hI := Imp.ax)
 ·obtain rfl : n = s.size := by omega
  apply X.exit
  apply X.sr
  iterate 2 refine Ex.pu ?_
  apply Ex.nil
  refine X.ret ?_
  refine RetQ.imp (Imp.freeze (k := 30) rfl) ?_
  refine RetQ.ret (.one (.tmp rfl (LeV.eq ?_)))
  all_goals (first | rfl | (simp_all; done))
end Go.Rse
