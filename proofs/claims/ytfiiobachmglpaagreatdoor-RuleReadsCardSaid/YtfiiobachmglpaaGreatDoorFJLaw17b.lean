/-
  Walks: the run that a text of the chapter is.
-/
import Derived.Test.YtfiiobachmglpaaGreatDoorFJRulC
import Derived.Test.YtfiiobachmglpaaGreatDoorFLevA
import Derived.Test.YtfiiobachmglpaaGreatDoorFJKit1
import Derived.Test.YtfiiobachmglpaaGreatDoorFJRef9b
set_option linter.unusedSimpArgs false
set_option linter.unusedVariables false
namespace Go.Rse
open Go Go.Proofs
theorem ztR {S S2 : List Sg × Bool × Bool} {b : Int} (h : S2 = txS S b) (hb : b = 114) : S.1 = S2.1 /\ true = S2.2.1 /\ S.2.2 = S2.2.2 := by subst h; unfold txS; rw [if_pos hb]; exact ⟨rfl, rfl, rfl⟩
theorem ztS {S S2 : List Sg × Bool × Bool} {b : Int} (h : S2 = txS S b) (ha : ¬ b = 114) (hb : b = 42) : S.1 = S2.1 /\ S.2.1 = S2.2.1 /\ true = S2.2.2 := by subst h; unfold txS; rw [if_neg ha, if_pos hb]; exact ⟨rfl, rfl, rfl⟩
theorem ztT {S S2 : List Sg × Bool × Bool} {b : Int} (h : S2 = txS S b) (ha : ¬ b = 114) (hc : ¬ b = 42) (hb : b = 46) : S.1 ++ [{ (default : Sg) with Kind := 3 }] = S2.1 /\ false = S2.2.1 /\ false = S2.2.2 := by subst h; unfold txS; rw [if_neg ha, if_neg hc, if_pos hb]; exact ⟨rfl, rfl, rfl⟩
theorem ztU {S S2 : List Sg × Bool × Bool} {b : Int} (h : S2 = txS S b) (ha : ¬ b = 114) (hc : ¬ b = 42) (hd : ¬ b = 46) (hb : b = 32) : S.1 = S2.1 /\ false = S2.2.1 /\ false = S2.2.2 := by subst h; unfold txS; rw [if_neg ha, if_neg hc, if_neg hd, if_pos hb]; exact ⟨rfl, rfl, rfl⟩
theorem ztV {S S2 : List Sg × Bool × Bool} {b : Int} (h : S2 = txS S b) (ha : ¬ b = 114) (hc : ¬ b = 42) (hd : ¬ b = 46) (hb : ¬ b = 32) : S.1 ++ [txG b S.2.1 S.2.2] = S2.1 /\ false = S2.2.1 /\ false = S2.2.2 := by subst h; unfold txS; rw [if_neg ha, if_neg hc, if_neg hd, if_neg hb]; exact ⟨rfl, rfl, rfl⟩
theorem zqm (k : Nat) (h : ((k : Int)).toNat < (⟨#[88, 76, 66, 83, 77, 81, 70, 90]⟩ : ByteArray).size) : (((⟨#[88, 76, 66, 83, 77, 81, 70, 90]⟩ : ByteArray)[((k : Int)).toNat]'h).toNat : Int) = txT.getD k 0 := by
 have h8 : k < 8 := by
  rw [Int.toNat_natCast] at h; exact h
 have key : ∀ j : Fin 8, (((⟨#[88, 76, 66, 83, 77, 81, 70, 90]⟩ : ByteArray)[j.val]'j.isLt).toNat : Int) = txT.getD j.val 0 := by decide
 have := key ⟨k, h8⟩;simpa using this
theorem zrV {b : Int} {k : Nat} (h : txT.getD k 0 = b) : txV b (k + 1) = (k : Int) + 1 := by
 show (if txT.getD k 0 = b then (k : Int) + 1 else txV b k) = _;rw [if_pos h]
theorem zrW {b : Int} {k : Nat} (h : ¬ txT.getD k 0 = b) : txV b (k + 1) = txV b k := by
 show (if txT.getD k 0 = b then (k : Int) + 1 else txV b k) = _;rw [if_neg h]
theorem zrX {b : Int} {r c : Bool} (h : r = true) : txG b r c = ⟨2, txV b 8, 0, 0, false, 0, false, false, ⟨0, 0, 0, 0⟩, false, 0, 0, 0, 0⟩ := by unfold txG; rw [if_pos h]; rfl
theorem zrY {b : Int} {r c : Bool} (h : r = false) : txG b r c = ⟨1, txV b 8, 0, 0, c, 0, false, false, ⟨0, 0, 0, 0⟩, false, 0, 0, 0, 0⟩ := by unfold txG; rw [if_neg (by rw [h]; decide)]; rfl
theorem zrZ : ({ (default : Sg) with Kind := 3 } : Sg) = ⟨3, 0, 0, 0, false, 0, false, false, ⟨0, 0, 0, 0⟩, false, 0, 0, 0, 0⟩ := rfl
theorem zr0 (b : Int) : txV b 0 = 0 := rfl
attribute [local irreducible] txK txB txS txV txG
attribute [local irreducible] Pur yK yM Ex X Fn Imp LeV LeB FnO It yW FnW FnOW FnP FnD
set_option maxHeartbeats 4000000 in
theorem zfi (s : ByteArray) (hl : s.size <= 1000) : Fn Tryz.prog 31 [.str s] (sgsA (txK (txB s) s.size).1) := by
 refine Fn.go Tryz.func31 Tryz.ntmps31 (fun g w d => ?_);apply yb;refine ya ?_;apply yn;refine ya ?_;apply yn;refine yh ?_;iterate 2 apply yd
 refine y3 (yZ sgE 67 17 3 30 rfl rfl) ?_;have hz0 : [] = (txK (txB s) 0).1 := by unfold txK; simp
 have hz1 : false = (txK (txB s) 0).2.1 := by unfold txK; simp
 have hz2 : false = (txK (txB s) 0).2.2 := by unfold txK; simp
 apply yc;refine ye ?_;apply X.block
 refine y9 (ι := Nat) (fun (n : Nat) => [(0, .str s), (3, .own 30), (4, .bool (txK (txB s) n).2.1), (5, .bool (txK (txB s) n).2.2), (6, iv (n : Int))]) (fun (n : Nat) => [(30, .row sgE (txK (txB s) n).1 67 17)]) (fun (n : Nat) => n <= s.size) (fun (n : Nat) => s.size - n) 0 (fun n hk => ?_) (h0 := by
  exact yx)
 apply yd;apply yb;iterate 2 refine ya ?_
 refine ya (hs := by exact zkN Tryz.underlying9 rfl) ?_;refine ye ?_;refine yk rfl ?_ ?_<;>intro hc1
 ·have hns : n < s.size := by omega
  have hb := zr6 hns;have hst := zpN hb;have hkl := ziR (txB s) n;have hv0 := zr0 ((s[n]'hns).toNat : Int);apply yf;apply yd;apply X.block;apply yd;apply yb;iterate 2 refine ya ?_
  refine ya (x := .int .u8 ((s[n]'hns).toNat : Int)) (hs := by exact zc9 (s := s) (i := (n : Int)) Tryz.underlying9 rfl rfl (by omega) (by simpa using hns)) ?_;apply Ex.nil;apply X.block;apply yb;refine yh ?_;refine yk rfl ?_ ?_<;>intro hc2
  ·have hZ1 := ztR hst hc2;obtain ⟨q1, q2, q3⟩ := hZ1;apply yb;refine ye ?_;apply X.exit;apply yc;refine yp ?_;refine yL (n + 1) (hI := yx)
  apply yb;refine yh ?_;refine yk rfl ?_ ?_<;>intro hc3
  ·have hZ2 := ztS hst hc2 hc3;obtain ⟨q1, q2, q3⟩ := hZ2;apply yb;refine ye ?_;apply X.exit;apply yc;refine yp ?_;refine yL (n + 1) (hI := yx)
  apply yb;refine yh ?_;refine yk rfl ?_ ?_<;>intro hc4
  ·have hZ3 := ztT hst hc2 hc3 hc4;obtain ⟨q1, q2, q3⟩ := hZ3;rw [zrZ] at q1;apply yc;(iterate 2 refine ya ?_);refine yO sgE [⟨_, _, _, _, _, _, _, _, ⟨_, _, _, _⟩, _, _, _, _, _⟩] ?_;refine yi ?_;refine ye ?_;apply yc;refine yh ?_;apply yc;refine yp ?_;refine yL (n + 1) (hI := yx)
  ·apply yb;refine yh ?_;refine yk rfl ?_ ?_<;>intro hc5
   ·have hZ4 := ztU hst hc2 hc3 hc4 hc5;obtain ⟨q1, q2, q3⟩ := hZ4;apply yf;apply yc;refine yh ?_;apply yc;refine yp ?_;refine yL (n + 1) (hI := yx)
   ·have hZ5 := ztV hst hc2 hc3 hc4 hc5;obtain ⟨q1, q2, q3⟩ := hZ5;apply yb;refine ye ?_;apply yd;apply yb;refine ye ?_;apply X.block
    refine y9 (ι := Nat) (fun (k : Nat) => [(0, .str s), (3, .own 30), (4, .bool (txK (txB s) n).2.1), (5, .bool (txK (txB s) n).2.2), (6, iv (n : Int)), (7, iv (txV ((s[n]'hns).toNat : Int) k)), (8, iv (k : Int))]) (fun (k : Nat) => [(30, .row sgE (txK (txB s) n).1 67 17)]) (fun (k : Nat) => k <= 8) (fun (k : Nat) => 8 - k) 0 (fun k hk => ?_) (h0 := by
     exact yx)
    apply yd;apply yb;refine yh ?_;refine yk rfl ?_ ?_<;>intro hc6
    ·have hle := zqm k (by show ((k : Int)).toNat < 8; omega);apply yf;apply yd;apply X.block;apply yd;refine zi [23,24,25,26,27,28] [0,1,0,0,12,31] mo ?_;refine yj ?_;refine yj ?_ (hs := by exact zc9 (i := (k : Int)) Tryz.underlying9 rfl rfl (by omega) (by show ((k : Int)).toNat < 8; omega));(iterate 2 refine yj ?_);refine yj ?_ (hs := by exact zc9 (s := s) (i := (n : Int)) Tryz.underlying9 rfl rfl (by omega) (by simpa using hns));refine yj ?_;refine yR ?_;apply Ex.nil;refine yk rfl ?_ ?_<;>intro hc7
     ·have hvt : txV ((s[n]'hns).toNat : Int) (k + 1) = (k : Int) + 1 := zrV (hle.symm.trans hc7);apply yc;refine yp ?_;apply yc;refine yp ?_;refine yL (k + 1) (hI := yx)
     ·have hvt : txV ((s[n]'hns).toNat : Int) (k + 1) = txV ((s[n]'hns).toNat : Int) k := zrW (fun e => hc7 (hle.trans e));apply yf;apply yc;refine yp ?_;refine yL (k + 1) (hI := yx)
    ·obtain rfl : k = 8 := by omega
     apply X.exit;apply yb;(iterate 3 refine ya ?_);refine yJ ?_;refine yi ?_;apply Ex.nil;apply yd;apply yb;refine ye ?_;refine yk rfl ?_ ?_<;>intro hc8
     ·rw [zrX (by simpa using hc8)] at q1;apply yc;(iterate 2 refine ya ?_);refine yi ?_;apply Ex.nil;apply yc;(iterate 2 refine ya ?_);refine yO sgE [⟨_, _, _, _, _, _, _, _, ⟨_, _, _, _⟩, _, _, _, _, _⟩] ?_;refine yi ?_;refine ye ?_;apply yc;refine yh ?_;apply yc;refine yp ?_;refine yL (n + 1) (hI := yx)
     ·rw [zrY (by simpa using hc8)] at q1;apply yf;apply yc;(iterate 2 refine ya ?_);refine yO sgE [⟨_, _, _, _, _, _, _, _, ⟨_, _, _, _⟩, _, _, _, _, _⟩] ?_;refine yi ?_;refine ye ?_;apply yc;refine yh ?_;apply yc;refine yp ?_;refine yL (n + 1) (hI := yx)
 ·obtain rfl : n = s.size := by omega
  apply X.exit;apply yb;refine yh ?_;refine X.ret ?_;refine yu (Imp.freeze (k := 30) rfl) ?_;refine ym ?_;all_goals (first | rfl | (simp_all; done))
end Go.Rse
namespace Go.Rse
open Go Go.Proofs
section
variable {m : Mn} {l : List Sg}
end
theorem zkq {m : Mn} {I : List Ite} (h0 : ckM m = 0) (h1 : ckIE I = 0) (h : leE m I = 0) : ∀ n, n <= (perfL m).length -> LvJ m (perfL m) I n
 | 0, _ => znY m _ I
 | n + 1, hn => by
  have ih := zkq h0 h1 h n (by omega);have hk : (perfL m)[n]? = some ((perfL m)[n]'(by omega)) := lgg (by omega);refine ih.s hk (Classical.byContradiction fun he => ?_);have := (zro h0 h1 ih hk he).1;rw [h] at this; exact he this.symm
theorem zqn {m : Mn} {I : List Ite} (h0 : ckM m = 0) (h1 : ckIE I = 0) (h : leE m I = 0) : (lvN m (perfL m) I (perfL m).length).1 = leC m I /\ (lvN m (perfL m) I (perfL m).length).2 = leI m I :=
 (zrp h0 h1 (zkq h0 h1 h (perfL m).length (Nat.le_refl _)) rfl).2
theorem ztW {m : Mn} {I : List Ite} (h : leE m I = 0) : ckM m = 0 /\ ckIE I = 0 := by
 have h0 : ckM m = 0 := Classical.byContradiction fun h2 => h2 ((zrm h2).1.symm.trans h)
 exact ⟨h0, Classical.byContradiction fun h2 => h2 ((zrn h0 h2).1.symm.trans h)⟩
theorem zob (m : Mn) (I : List Ite) : (leC m I).length <= 4 * (2 * I.length + 2) := by
 by_cases h : leE m I = 0
 ·obtain ⟨hM, hI⟩ := ztW h;rw [← (zqn hM hI h).1];have h1 := (zkq hM hI h (perfL m).length (Nat.le_refl _)).cho;have h2 := Nat.mul_le_mul_right (2 * I.length + 2) (zjl m);omega
 ·unfold leC; rw [if_neg h]; simp
theorem zmM (m : Mn) {l : List Sg} (hl : l.length <= 1000) : (rdV m l).Dots.length <= 1000 /\ (rdV m l).Minor.length <= 1000 /\ (rdV m l).Choices.length <= 10000 /\ (rdV m l).Durs.length <= 1000 := by
 have hd : (zm m l).length <= 1000 := by have := zfh m l; have := zoa m l; omega
 have hp : (twos (prL m l).length).length <= 1000 := by rw [zby]; have := zcT m l; omega
 have hc := zob m (rdI m l);have hi := zgF (m := m) (l := l);have hu := zfj (m := m) (l := l);refine ⟨?_, ?_, ?_, by omega⟩
 ·unfold rdV; split
  ·exact hd
  ·simp
 ·unfold rdV; split
  ·exact hp
  ·simp
 ·unfold rdV; split
  ·show (leC m (rdI m l)).length <= _; omega
  ·simp
end Go.Rse
namespace Go.Rse
open Go Go.Proofs Go.RowKit
def txL (s : ByteArray) : List Sg := (txK (txB s) s.size).1
def itQ (m : Mn) (l : List Sg) : List Ite := itK l (mkK (zkb m l) l l.length).1 (mkK (zkb m l) l l.length).2.1 (dvK m l (za8 (zN m l) (twos (zN m l).length) (zN m l).length) l.length) l.length
theorem zr1 {m : Mn} {l : List Sg} (h : ckR m l = 0) : rdI m l = itQ m l := by
 have h0 := ckDR h;have k1 := zkW (zci h0).1 h0;have k2 := zkX h0;unfold rdI;rw [zkn (by unfold itmE; rw [if_pos k1, k2]), ← zmD k2.symm];unfold mkC mkA duM;rw [if_pos k1, if_pos k1, prR h rfl, zlY h0]; rfl
def rdB (m : Mn) (l : List Sg) (D : List Tm) : Bool := decide (ckR m l = 0) && decide (ckIE (itQ m l) = 0) && decide ((lvF m (perfL m) (itQ m l) []).2.2 = 0) && decide ((lvF m (perfL m) (itQ m l) []).2.1.map (·.Dur) = D)
theorem zqo {m : Mn} {l : List Sg} {D : List Tm} (h : rdB m l D = true) : rdE m l = 0 /\ (rdV m l).Durs = D := by
 unfold rdB at h;simp only [Bool.and_eq_true, decide_eq_true_eq] at h;obtain ⟨⟨⟨h1, h2⟩, h3⟩, h4⟩ := h;have h0 := ckDR h1;rw [← zr1 h1] at h2 h3 h4;have hl : leE m (rdI m l) = 0 := by unfold leE; rw [if_pos (zci h0).1, if_pos h2]; exact h3
 obtain ⟨e1, e2⟩ := zqq h0 hl;refine ⟨e1, ?_⟩;rw [e2];show (leI m (rdI m l)).map (·.Dur) = D;unfold leI; rw [if_pos hl]; exact h4
attribute [local irreducible] Pur yK yM Ex X Fn Imp LeV LeB FnO It yW FnW FnOW FnP FnD
theorem zr2 (s : ByteArray) (hl : s.size <= 1000) : Fn Tryz.prog 31 [.str s] (sgsA (txL s)) := zfi s hl
theorem zoc (s : ByteArray) : (txL s).length <= s.size := ziR _ _
attribute [local irreducible] txL rdE rdV hfT
theorem zeu (tem pro : Int) (s : ByteArray) (l : List Int) (hs : s.size <= 1000) (hl : l.length <= 1000) (hb : ∀ x ∈ l, 0 <= x /\ x <= 1000000) : Fn Tryz.prog 29 [iv tem, iv pro, .str s, yg l] (.bool (decide (rdE ⟨2, 2, tem, pro⟩ (txL s) = 0) && decide ((rdV ⟨2, 2, tem, pro⟩ (txL s)).Durs = l.map hfT))) := by
 have ht := zoc s;have hd := zfj (m := ⟨2, 2, tem, pro⟩) (l := txL s);refine Fn.go Tryz.func29 Tryz.ntmps29 (fun g w d => ?_);apply yb;refine ya ?_;apply yn;iterate 4 refine ya ?_
 refine yr (zr2 s hs) ?_;refine yr (zdG ⟨2, 2, tem, pro⟩ (txL s) (by omega)) ?_;iterate 5 refine ya ?_
 apply yn;iterate 2 refine ya ?_
 refine ExF.at 2 ?_;refine yC ?_;iterate 2 refine ExF.gi ?_
 refine ExF.cg (zdH l hl hb) ?_;refine ExF.cg (zah (rdV ⟨2, 2, tem, pro⟩ (txL s)).Durs (l.map hfT) (by omega)) ?_;refine yA ?_;refine yh ?_;refine X.ret ?_;refine ym ?_;all_goals (first | rfl | (simp_all; done))
def rdK (tem pro : Int) (a : Array UInt8) (l : List Int) : Bool := decide (a.size <= 1000) && decide (l.length <= 1000) && (l.all fun x => decide (0 <= x) && decide (x <= 1000000)) && rdB ⟨2, 2, tem, pro⟩ (txL ⟨a⟩) (l.map hfT)
theorem zkY (tem pro : Int) (a : Array UInt8) (l : List Int) (h : rdK tem pro a l = true) : Fn Tryz.prog 29 [iv tem, iv pro, .str ⟨a⟩, yg l] (.bool true) := by
 unfold rdK at h;simp only [Bool.and_eq_true, decide_eq_true_eq, List.all_eq_true] at h;obtain ⟨⟨⟨h1, h2⟩, h3⟩, h4⟩ := h;have hR := zeu tem pro ⟨a⟩ l h1 h2 h3;obtain ⟨e1, e2⟩ := zqo h4;rw [e1, e2] at hR;simpa using hR
set_option maxHeartbeats 4000000 in
theorem zbI  : Fn Tryz.prog 16 [] (.bool true) := by
 refine Fn.go Tryz.func16 Tryz.ntmps16 (fun g w d => ?_);apply yb;refine ya ?_;apply yn;refine Ex.stepA (zV (enc := intE) (l := [8, 4, 12]) sl27 ty3 ze3 (by decide) rfl rfl rfl rfl (by decide) (by decide) (fun _ => rfl) rfl) rfl rfl ?_;refine yr (zkY 3 2 #[66, 32, 83, 32, 66] [8, 4, 12] (by kernel_rfl)) ?_;refine ya ?_;refine zae rfl rfl rfl ?_;refine Ex.stepA (zV (enc := intE) (l := [12, 4, 8, 12]) sl27 ty3 ze3 (by decide) rfl rfl rfl rfl (by decide) (by decide) (fun _ => rfl) rfl) rfl rfl ?_;refine zae rfl rfl rfl ?_;refine yr (zkY 3 2 #[66, 32, 83, 32, 83, 32, 66] [12, 4, 8, 12] (by kernel_rfl)) ?_;iterate 2 refine ya ?_
 refine zae rfl rfl rfl ?_;refine Ex.stepA (zV (enc := intE) (l := [4, 2, 4, 2, 6]) sl27 ty3 ze3 (by decide) rfl rfl rfl rfl (by decide) (by decide) (fun _ => rfl) rfl) rfl rfl ?_;refine zae rfl rfl rfl ?_;refine yr (zkY 2 3 #[83, 32, 77, 32, 83, 32, 77, 32, 83] [4, 2, 4, 2, 6] (by kernel_rfl)) ?_;iterate 2 refine ya ?_
 refine zae rfl rfl rfl ?_;refine Ex.stepA (zV (enc := intE) (l := [4, 3, 1, 2]) sl27 ty3 ze3 (by decide) rfl rfl rfl rfl (by decide) (by decide) (fun _ => rfl) rfl) rfl rfl ?_;refine zae rfl rfl rfl ?_;refine yr (zkY 2 2 #[83, 32, 77, 32, 46, 32, 81, 32, 77] [4, 3, 1, 2] (by kernel_rfl)) ?_;refine yh ?_;refine X.ret ?_;refine ym ?_;all_goals (first | rfl | simp)
end Go.Rse
namespace Go.Rse
open Go Go.Proofs Go.RowKit
section
variable {P : Program} {C : Ctx} {st : St} {ty : TypeId}
end
attribute [local irreducible] Pur yK yM Ex X Fn Imp LeV LeB FnO It yW
attribute [local irreducible] sumE sumV sumF yP ckT addE addV
end Go.Rse
namespace Go.Rse
open Go Go.Proofs
attribute [local irreducible] Pur yK yM Ex X Fn Imp LeV LeB FnO It yW
end Go.Rse
namespace Go.Rse
open Go Go.Proofs
attribute [local irreducible] Pur yK yM Ex X Fn Imp LeV LeB FnO It yW FnW FnOW FnP FnD
attribute [local irreducible] rdE rdV cuV cuE leC leI leE
theorem ziO (m : Mn) (l : List Sg) (hl : l.length <= 1000) : Fn Tryz.prog 28 [rdgA (rdV m l), rdgA (rdV m l)] (.bool true) := by
 have h := zmM m hl;have := zcH (rdV m l) (rdV m l) (by omega) (by omega) (by omega) (by omega);simpa using this
set_option maxHeartbeats 4000000 in
theorem C_tactuslaw17_RuleReads (m : Mn) (l : List Sg) (D : List Tm) : Fn Tryz.prog 8 [mnA m, sgsA l, tmsA D] (.bool true) := by
 have b1 := zfj (m := m) (l := l);refine Fn.go Tryz.func8 Tryz.ntmps8 (fun g w d => ?_);apply yb;refine yH ?_;refine ye ?_;apply yd;apply yb;iterate 3 refine ya ?_
 refine ExF.at 3 ?_;refine yC ?_;iterate 3 refine ExF.gi ?_
 refine yA ?_;refine ye ?_;refine yk rfl ?_ ?_<;>intro hc1
 ·apply yb;refine yr zbI ?_;refine ye ?_;refine X.ret ?_;refine ym ?_;all_goals (first | rfl | simp)
 apply yf;apply yb;refine ya ?_;refine yr (zdF l (by omega)) ?_;refine ya ?_;apply yn;iterate 2 refine ya ?_
 refine yr (zgf m l (by omega)) ?_;iterate 3 refine ya ?_
 refine yJ ?_;refine yi ?_;refine ya ?_;apply yn;iterate 2 refine ya ?_
 refine yr (zbZ m l (by omega)) ?_;iterate 3 refine ya ?_
 refine yJ ?_;refine yi ?_;refine ya ?_;apply yn;iterate 2 refine ya ?_
 refine yr (zdG m l (by omega)) ?_;refine y4 ?_;apply yd;apply yb;iterate 2 refine ya ?_
 refine yr (ziO m l (by omega)) ?_;refine ya ?_;refine ExF.at 4 ?_;refine yC ?_;iterate 3 refine ExF.gi ?_
 iterate 2 refine yC ?_
 iterate 3 refine ExF.gi ?_
 refine ExF.cg (zko (rdV m l).Durs (by omega)) ?_;refine ExF.gi ?_;iterate 2 refine yC ?_
 iterate 3 refine ExF.gi ?_
 refine yA ?_;refine ye ?_;refine yk rfl ?_ ?_<;>intro hc2
 ·simp at hc2
 apply yf;apply yd;refine zi [6,64,65,66,67,68,69,70,71,72,73,74,75,76,77,78,79,80,81,82,83,84,85,86,87,88,89,90] [0,0,0,7,0,0,0,127,255,511,1023,1023,1023,5119,16383,1023,33791,131071,262143,524287,1048575,1048575,4194303,8388607,16777215,33554431,67108863,134217727] mo ?_;iterate 3 refine yj ?_
 refine zj (zfk m l D (by omega)) ?_;iterate 3 refine yj ?_
 refine zj (zey m l D (by omega)) ?_;iterate 2 refine yj ?_
 iterate 4 refine ChM.gi ?_
 refine ChM.cg (zfk m l (rdV m l).Durs (by omega)) ?_;iterate 3 refine ChM.gi ?_
 iterate 2 refine yj ?_
 iterate 2 refine ChM.gi ?_
 refine ChM.cg (zkp l (by omega)) ?_;iterate 2 refine yj ?_
 refine ChM.cg zbI ?_;iterate 2 refine yj ?_
 refine yR ?_;apply Ex.nil;refine X.ret ?_;refine ym ?_;all_goals (first | rfl | simp)
end Go.Rse
