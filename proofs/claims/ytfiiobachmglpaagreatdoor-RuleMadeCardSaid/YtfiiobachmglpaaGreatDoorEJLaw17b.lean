/-
  Walks: the run that a text of the chapter is.
-/
import Derived.Test.YtfiiobachmglpaaGreatDoorEJRulC
import Derived.Test.YtfiiobachmglpaaGreatDoorELevA
import Derived.Test.YtfiiobachmglpaaGreatDoorEJKit1
import Derived.Test.YtfiiobachmglpaaGreatDoorEJRef9b
set_option linter.unusedSimpArgs false
set_option linter.unusedVariables false
namespace Go.Rse
open Go Go.Proofs
theorem zt1 {S S2 : List Sg × Bool × Bool} {b : Int} (h : S2 = txS S b) (hb : b = 114) : S.1 = S2.1 /\ true = S2.2.1 /\ S.2.2 = S2.2.2 := by subst h; unfold txS; rw [if_pos hb]; exact ⟨rfl, rfl, rfl⟩
theorem zt2 {S S2 : List Sg × Bool × Bool} {b : Int} (h : S2 = txS S b) (ha : ¬ b = 114) (hb : b = 42) : S.1 = S2.1 /\ S.2.1 = S2.2.1 /\ true = S2.2.2 := by subst h; unfold txS; rw [if_neg ha, if_pos hb]; exact ⟨rfl, rfl, rfl⟩
theorem zt3 {S S2 : List Sg × Bool × Bool} {b : Int} (h : S2 = txS S b) (ha : ¬ b = 114) (hc : ¬ b = 42) (hb : b = 46) : S.1 ++ [{ (default : Sg) with Kind := 3 }] = S2.1 /\ false = S2.2.1 /\ false = S2.2.2 := by subst h; unfold txS; rw [if_neg ha, if_neg hc, if_pos hb]; exact ⟨rfl, rfl, rfl⟩
theorem zt4 {S S2 : List Sg × Bool × Bool} {b : Int} (h : S2 = txS S b) (ha : ¬ b = 114) (hc : ¬ b = 42) (hd : ¬ b = 46) (hb : b = 32) : S.1 = S2.1 /\ false = S2.2.1 /\ false = S2.2.2 := by subst h; unfold txS; rw [if_neg ha, if_neg hc, if_neg hd, if_pos hb]; exact ⟨rfl, rfl, rfl⟩
theorem zt5 {S S2 : List Sg × Bool × Bool} {b : Int} (h : S2 = txS S b) (ha : ¬ b = 114) (hc : ¬ b = 42) (hd : ¬ b = 46) (hb : ¬ b = 32) : S.1 ++ [txG b S.2.1 S.2.2] = S2.1 /\ false = S2.2.1 /\ false = S2.2.2 := by subst h; unfold txS; rw [if_neg ha, if_neg hc, if_neg hd, if_neg hb]; exact ⟨rfl, rfl, rfl⟩
theorem zqx (k : Nat) (h : ((k : Int)).toNat < (⟨#[88, 76, 66, 83, 77, 81, 70, 90]⟩ : ByteArray).size) : (((⟨#[88, 76, 66, 83, 77, 81, 70, 90]⟩ : ByteArray)[((k : Int)).toNat]'h).toNat : Int) = txT.getD k 0 := by
 have h8 : k < 8 := by
  rw [Int.toNat_natCast] at h; exact h
 have key : ∀ j : Fin 8, (((⟨#[88, 76, 66, 83, 77, 81, 70, 90]⟩ : ByteArray)[j.val]'j.isLt).toNat : Int) = txT.getD j.val 0 := by decide
 have := key ⟨k, h8⟩;simpa using this
theorem zr5 {b : Int} {k : Nat} (h : txT.getD k 0 = b) : txV b (k + 1) = (k : Int) + 1 := by
 show (if txT.getD k 0 = b then (k : Int) + 1 else txV b k) = _;rw [if_pos h]
theorem zr6 {b : Int} {k : Nat} (h : ¬ txT.getD k 0 = b) : txV b (k + 1) = txV b k := by
 show (if txT.getD k 0 = b then (k : Int) + 1 else txV b k) = _;rw [if_neg h]
theorem zr7 {b : Int} {r c : Bool} (h : r = true) : txG b r c = ⟨2, txV b 8, 0, 0, false, 0, false, false, ⟨0, 0, 0, 0⟩, false, 0, 0, 0, 0⟩ := by unfold txG; rw [if_pos h]; rfl
theorem zr8 {b : Int} {r c : Bool} (h : r = false) : txG b r c = ⟨1, txV b 8, 0, 0, c, 0, false, false, ⟨0, 0, 0, 0⟩, false, 0, 0, 0, 0⟩ := by unfold txG; rw [if_neg (by rw [h]; decide)]; rfl
theorem zr9 : ({ (default : Sg) with Kind := 3 } : Sg) = ⟨3, 0, 0, 0, false, 0, false, false, ⟨0, 0, 0, 0⟩, false, 0, 0, 0, 0⟩ := rfl
theorem zsa (b : Int) : txV b 0 = 0 := rfl
attribute [local irreducible] txK txB txS txV txG
attribute [local irreducible] Pur yM yO Ex X Fn Imp LeV LeB FnO It yW FnW FnOW FnP FnD
set_option maxHeartbeats 4000000 in
theorem zff (s : ByteArray) (hl : s.size <= 1000) : Fn Tryz.prog 31 [.str s] (sgsA (txK (txB s) s.size).1) := by
 refine Fn.go Tryz.func31 Tryz.ntmps31 (fun g w d => ?_);apply yb;refine ya ?_;apply yn;refine ya ?_;apply yn;refine yh ?_;iterate 2 apply yd
 refine y2 (yZ sgE 67 17 3 30 rfl rfl) ?_;have hz0 : [] = (txK (txB s) 0).1 := by unfold txK; simp
 have hz1 : false = (txK (txB s) 0).2.1 := by unfold txK; simp
 have hz2 : false = (txK (txB s) 0).2.2 := by unfold txK; simp
 apply yc;refine ye ?_;apply X.block
 refine zd (ι := Nat) (fun (n : Nat) => [(0, .str s), (3, .own 30), (4, .bool (txK (txB s) n).2.1), (5, .bool (txK (txB s) n).2.2), (6, iv (n : Int))]) (fun (n : Nat) => [(30, .row sgE (txK (txB s) n).1 67 17)]) (fun (n : Nat) => n <= s.size) (fun (n : Nat) => s.size - n) 0 (fun n hk => ?_) (h0 := by
  exact yx)
 apply yd;apply yb;iterate 2 refine ya ?_
 refine ya (hs := by exact zkL Tryz.underlying9 rfl) ?_;refine ye ?_;refine yj rfl ?_ ?_<;>intro hc1
 ·have hns : n < s.size := by omega
  have hb := zsg hns;have hst := zpW hb;have hkl := ziP (txB s) n;have hv0 := zsa ((s[n]'hns).toNat : Int);apply yf;apply yd;apply X.block;apply yd;apply yb;iterate 2 refine ya ?_
  refine ya (x := .int .u8 ((s[n]'hns).toNat : Int)) (hs := by exact zc5 (s := s) (i := (n : Int)) Tryz.underlying9 rfl rfl (by omega) (by simpa using hns)) ?_;apply Ex.nil;apply X.block;apply yb;refine yh ?_;refine yj rfl ?_ ?_<;>intro hc2
  ·have hZ1 := zt1 hst hc2;obtain ⟨q1, q2, q3⟩ := hZ1;apply yb;refine ye ?_;apply X.exit;apply yc;refine yp ?_;refine yK (n + 1) (hI := yx)
  apply yb;refine yh ?_;refine yj rfl ?_ ?_<;>intro hc3
  ·have hZ2 := zt2 hst hc2 hc3;obtain ⟨q1, q2, q3⟩ := hZ2;apply yb;refine ye ?_;apply X.exit;apply yc;refine yp ?_;refine yK (n + 1) (hI := yx)
  apply yb;refine yh ?_;refine yj rfl ?_ ?_<;>intro hc4
  ·have hZ3 := zt3 hst hc2 hc3 hc4;obtain ⟨q1, q2, q3⟩ := hZ3;rw [zr9] at q1;apply yc;(iterate 2 refine ya ?_);refine yL sgE [⟨_, _, _, _, _, _, _, _, ⟨_, _, _, _⟩, _, _, _, _, _⟩] ?_;refine yi ?_;refine ye ?_;apply yc;refine yh ?_;apply yc;refine yp ?_;refine yK (n + 1) (hI := yx)
  ·apply yb;refine yh ?_;refine yj rfl ?_ ?_<;>intro hc5
   ·have hZ4 := zt4 hst hc2 hc3 hc4 hc5;obtain ⟨q1, q2, q3⟩ := hZ4;apply yf;apply yc;refine yh ?_;apply yc;refine yp ?_;refine yK (n + 1) (hI := yx)
   ·have hZ5 := zt5 hst hc2 hc3 hc4 hc5;obtain ⟨q1, q2, q3⟩ := hZ5;apply yb;refine ye ?_;apply yd;apply yb;refine ye ?_;apply X.block
    refine zd (ι := Nat) (fun (k : Nat) => [(0, .str s), (3, .own 30), (4, .bool (txK (txB s) n).2.1), (5, .bool (txK (txB s) n).2.2), (6, iv (n : Int)), (7, iv (txV ((s[n]'hns).toNat : Int) k)), (8, iv (k : Int))]) (fun (k : Nat) => [(30, .row sgE (txK (txB s) n).1 67 17)]) (fun (k : Nat) => k <= 8) (fun (k : Nat) => 8 - k) 0 (fun k hk => ?_) (h0 := by
     exact yx)
    apply yd;apply yb;refine yh ?_;refine yj rfl ?_ ?_<;>intro hc6
    ·have hle := zqx k (by show ((k : Int)).toNat < 8; omega);apply yf;apply yd;apply X.block;apply yd;refine zi [23,24,25,26,27,28] [0,1,0,0,12,31] mo ?_;refine yk ?_;refine yk ?_ (hs := by exact zc5 (i := (k : Int)) Tryz.underlying9 rfl rfl (by omega) (by show ((k : Int)).toNat < 8; omega));(iterate 2 refine yk ?_);refine yk ?_ (hs := by exact zc5 (s := s) (i := (n : Int)) Tryz.underlying9 rfl rfl (by omega) (by simpa using hns));refine yk ?_;refine yT ?_;apply Ex.nil;refine yj rfl ?_ ?_<;>intro hc7
     ·have hvt : txV ((s[n]'hns).toNat : Int) (k + 1) = (k : Int) + 1 := zr5 (hle.symm.trans hc7);apply yc;refine yp ?_;apply yc;refine yp ?_;refine yK (k + 1) (hI := yx)
     ·have hvt : txV ((s[n]'hns).toNat : Int) (k + 1) = txV ((s[n]'hns).toNat : Int) k := zr6 (fun e => hc7 (hle.trans e));apply yf;apply yc;refine yp ?_;refine yK (k + 1) (hI := yx)
    ·obtain rfl : k = 8 := by omega
     apply X.exit;apply yb;(iterate 3 refine ya ?_);refine yI ?_;refine yi ?_;apply Ex.nil;apply yd;apply yb;refine ye ?_;refine yj rfl ?_ ?_<;>intro hc8
     ·rw [zr7 (by simpa using hc8)] at q1;apply yc;(iterate 2 refine ya ?_);refine yi ?_;apply Ex.nil;apply yc;(iterate 2 refine ya ?_);refine yL sgE [⟨_, _, _, _, _, _, _, _, ⟨_, _, _, _⟩, _, _, _, _, _⟩] ?_;refine yi ?_;refine ye ?_;apply yc;refine yh ?_;apply yc;refine yp ?_;refine yK (n + 1) (hI := yx)
     ·rw [zr8 (by simpa using hc8)] at q1;apply yf;apply yc;(iterate 2 refine ya ?_);refine yL sgE [⟨_, _, _, _, _, _, _, _, ⟨_, _, _, _⟩, _, _, _, _, _⟩] ?_;refine yi ?_;refine ye ?_;apply yc;refine yh ?_;apply yc;refine yp ?_;refine yK (n + 1) (hI := yx)
 ·obtain rfl : n = s.size := by omega
  apply X.exit;apply yb;refine yh ?_;refine X.ret ?_;refine yu (Imp.freeze (k := 30) rfl) ?_;refine ym ?_;all_goals (first | rfl | (simp_all; done))
end Go.Rse
namespace Go.Rse
open Go Go.Proofs
section
variable {m : Mn} {l : List Sg}
end
theorem zkp {m : Mn} {I : List Ite} (h0 : ckM m = 0) (h1 : ckIE I = 0) (h : leE m I = 0) : ∀ n, n <= (perfL m).length -> LvJ m (perfL m) I n
 | 0, _ => zn0 m _ I
 | n + 1, hn => by
  have ih := zkp h0 h1 h n (by omega);have hk : (perfL m)[n]? = some ((perfL m)[n]'(by omega)) := lgg (by omega);refine ih.s hk (Classical.byContradiction fun he => ?_);have := (zrz h0 h1 ih hk he).1;rw [h] at this; exact he this.symm
theorem zqy {m : Mn} {I : List Ite} (h0 : ckM m = 0) (h1 : ckIE I = 0) (h : leE m I = 0) : (lvN m (perfL m) I (perfL m).length).1 = leC m I /\ (lvN m (perfL m) I (perfL m).length).2 = leI m I :=
 (zrA h0 h1 (zkp h0 h1 h (perfL m).length (Nat.le_refl _)) rfl).2
theorem zt6 {m : Mn} {I : List Ite} (h : leE m I = 0) : ckM m = 0 /\ ckIE I = 0 := by
 have h0 : ckM m = 0 := Classical.byContradiction fun h2 => h2 ((zrx h2).1.symm.trans h)
 exact ⟨h0, Classical.byContradiction fun h2 => h2 ((zry h0 h2).1.symm.trans h)⟩
theorem zok (m : Mn) (I : List Ite) : (leC m I).length <= 4 * (2 * I.length + 2) := by
 by_cases h : leE m I = 0
 ·obtain ⟨hM, hI⟩ := zt6 h;rw [← (zqy hM hI h).1];have h1 := (zkp hM hI h (perfL m).length (Nat.le_refl _)).cho;have h2 := Nat.mul_le_mul_right (2 * I.length + 2) (zjj m);omega
 ·unfold leC; rw [if_neg h]; simp
theorem zmN (m : Mn) {l : List Sg} (hl : l.length <= 1000) : (rdV m l).Dots.length <= 1000 /\ (rdV m l).Minor.length <= 1000 /\ (rdV m l).Choices.length <= 10000 /\ (rdV m l).Durs.length <= 1000 := by
 have hd : (zl m l).length <= 1000 := by have := zfc m l; have := zoc m l; omega
 have hp : (twos (prL m l).length).length <= 1000 := by rw [zbx]; have := zcP m l; omega
 have hc := zok m (rdI m l);have hi := zgB (m := m) (l := l);have hu := zk2 (m := m) (l := l);refine ⟨?_, ?_, ?_, by omega⟩
 ·unfold rdV; split
  ·exact hd
  ·simp
 ·unfold rdV; split
  ·exact hp
  ·simp
 ·unfold rdV; split
  ·show (leC m (rdI m l)).length <= _; omega
  ·simp
end Go.Rse
namespace Go.Rse
open Go Go.Proofs Go.RowKit
def txL (s : ByteArray) : List Sg := (txK (txB s) s.size).1
def itQ (m : Mn) (l : List Sg) : List Ite := itK l (mkK (zkc m l) l l.length).1 (mkK (zkc m l) l l.length).2.1 (dvK m l (za7 (zM m l) (twos (zM m l).length) (zM m l).length) l.length) l.length
theorem zsb {m : Mn} {l : List Sg} (h : ckR m l = 0) : rdI m l = itQ m l := by
 have h0 := ckDR h;have k1 := zkW (zce h0).1 h0;have k2 := zkX h0;unfold rdI;rw [zko (by unfold itmE; rw [if_pos k1, k2]), ← zmD k2.symm];unfold mkC mkA duM;rw [if_pos k1, if_pos k1, prR h rfl, zlY h0]; rfl
def rdB (m : Mn) (l : List Sg) (D : List Tm) : Bool := decide (ckR m l = 0) && decide (ckIE (itQ m l) = 0) && decide ((lvF m (perfL m) (itQ m l) []).2.2 = 0) && decide ((lvF m (perfL m) (itQ m l) []).2.1.map (·.Dur) = D)
theorem zqz {m : Mn} {l : List Sg} {D : List Tm} (h : rdB m l D = true) : rdE m l = 0 /\ (rdV m l).Durs = D := by
 unfold rdB at h;simp only [Bool.and_eq_true, decide_eq_true_eq] at h;obtain ⟨⟨⟨h1, h2⟩, h3⟩, h4⟩ := h;have h0 := ckDR h1;rw [← zsb h1] at h2 h3 h4;have hl : leE m (rdI m l) = 0 := by unfold leE; rw [if_pos (zce h0).1, if_pos h2]; exact h3
 obtain ⟨e1, e2⟩ := zqB h0 hl;refine ⟨e1, ?_⟩;rw [e2];show (leI m (rdI m l)).map (·.Dur) = D;unfold leI; rw [if_pos hl]; exact h4
attribute [local irreducible] Pur yM yO Ex X Fn Imp LeV LeB FnO It yW FnW FnOW FnP FnD
theorem zsc (s : ByteArray) (hl : s.size <= 1000) : Fn Tryz.prog 31 [.str s] (sgsA (txL s)) := zff s hl
theorem zol (s : ByteArray) : (txL s).length <= s.size := ziP _ _
attribute [local irreducible] txL rdE rdV hfT
theorem zeo (tem pro : Int) (s : ByteArray) (l : List Int) (hs : s.size <= 1000) (hl : l.length <= 1000) (hb : ∀ x ∈ l, 0 <= x /\ x <= 1000000) : Fn Tryz.prog 29 [iv tem, iv pro, .str s, yg l] (.bool (decide (rdE ⟨2, 2, tem, pro⟩ (txL s) = 0) && decide ((rdV ⟨2, 2, tem, pro⟩ (txL s)).Durs = l.map hfT))) := by
 have ht := zol s;have hd := zk2 (m := ⟨2, 2, tem, pro⟩) (l := txL s);refine Fn.go Tryz.func29 Tryz.ntmps29 (fun g w d => ?_);apply yb;refine ya ?_;apply yn;iterate 4 refine ya ?_
 refine yr (zsc s hs) ?_;refine yr (zjC ⟨2, 2, tem, pro⟩ (txL s) (by omega)) ?_;iterate 5 refine ya ?_
 apply yn;iterate 2 refine ya ?_
 refine ExF.at 2 ?_;refine yC ?_;iterate 2 refine ExF.gi ?_
 refine ExF.cg (zdB l hl hb) ?_;refine ExF.cg (zbk (rdV ⟨2, 2, tem, pro⟩ (txL s)).Durs (l.map hfT) (by omega)) ?_;refine yy ?_;refine yh ?_;refine X.ret ?_;refine ym ?_;all_goals (first | rfl | (simp_all; done))
def rdK (tem pro : Int) (a : Array UInt8) (l : List Int) : Bool := decide (a.size <= 1000) && decide (l.length <= 1000) && (l.all fun x => decide (0 <= x) && decide (x <= 1000000)) && rdB ⟨2, 2, tem, pro⟩ (txL ⟨a⟩) (l.map hfT)
theorem zkY (tem pro : Int) (a : Array UInt8) (l : List Int) (h : rdK tem pro a l = true) : Fn Tryz.prog 29 [iv tem, iv pro, .str ⟨a⟩, yg l] (.bool true) := by
 unfold rdK at h;simp only [Bool.and_eq_true, decide_eq_true_eq, List.all_eq_true] at h;obtain ⟨⟨⟨h1, h2⟩, h3⟩, h4⟩ := h;have hR := zeo tem pro ⟨a⟩ l h1 h2 h3;obtain ⟨e1, e2⟩ := zqz h4;rw [e1, e2] at hR;simpa using hR
set_option maxHeartbeats 4000000 in
theorem zep  : Fn Tryz.prog 16 [] (.bool true) := by
 refine Fn.go Tryz.func16 Tryz.ntmps16 (fun g w d => ?_);apply yb;refine ya ?_;apply yn;refine Ex.stepA (zU (enc := intE) (l := [8, 4, 12]) sl27 ty3 ze3 (by decide) rfl rfl rfl rfl (by decide) (by decide) (fun _ => rfl) rfl) rfl rfl ?_;refine yr (zkY 3 2 #[66, 32, 83, 32, 66] [8, 4, 12] (by kernel_rfl)) ?_;refine ya ?_;refine zad rfl rfl rfl ?_;refine Ex.stepA (zU (enc := intE) (l := [12, 4, 8, 12]) sl27 ty3 ze3 (by decide) rfl rfl rfl rfl (by decide) (by decide) (fun _ => rfl) rfl) rfl rfl ?_;refine zad rfl rfl rfl ?_;refine yr (zkY 3 2 #[66, 32, 83, 32, 83, 32, 66] [12, 4, 8, 12] (by kernel_rfl)) ?_;iterate 2 refine ya ?_
 refine zad rfl rfl rfl ?_;refine Ex.stepA (zU (enc := intE) (l := [4, 2, 4, 2, 6]) sl27 ty3 ze3 (by decide) rfl rfl rfl rfl (by decide) (by decide) (fun _ => rfl) rfl) rfl rfl ?_;refine zad rfl rfl rfl ?_;refine yr (zkY 2 3 #[83, 32, 77, 32, 83, 32, 77, 32, 83] [4, 2, 4, 2, 6] (by kernel_rfl)) ?_;iterate 2 refine ya ?_
 refine zad rfl rfl rfl ?_;refine Ex.stepA (zU (enc := intE) (l := [4, 3, 1, 2]) sl27 ty3 ze3 (by decide) rfl rfl rfl rfl (by decide) (by decide) (fun _ => rfl) rfl) rfl rfl ?_;refine zad rfl rfl rfl ?_;refine yr (zkY 2 2 #[83, 32, 77, 32, 46, 32, 81, 32, 77] [4, 3, 1, 2] (by kernel_rfl)) ?_;refine yh ?_;refine X.ret ?_;refine ym ?_;all_goals (first | rfl | simp)
end Go.Rse
namespace Go.Rse
open Go Go.Proofs Go.RowKit
section
variable {P : Program} {C : Ctx} {st : St} {ty : TypeId}
end
attribute [local irreducible] Pur yM yO Ex X Fn Imp LeV LeB FnO It yW
attribute [local irreducible] sumE sumV sumF yP ckT addE addV
end Go.Rse
namespace Go.Rse
open Go Go.Proofs
attribute [local irreducible] Pur yM yO Ex X Fn Imp LeV LeB FnO It yW
attribute [local irreducible] abvK rnK rnV rnS
theorem zai (m : Mn) (v : Int) (h8 : v <= 1000000) : Fn Tryz.prog 77 [mnA m, iv v] (.bool (abvK m v)) := by
 refine Fn.go Tryz.func77 Tryz.ntmps77 (fun g w d => ?_);apply yb;refine yH ?_;refine ye ?_;apply yd;apply yb;refine ye ?_;apply X.block
 refine zd (ι := Nat) (fun (k : Nat) => [(1, iv v), (2, .ptr 2 0 0 0), (5, iv (1 + (k : Int)))]) (fun (k : Nat) => [(2, .box (mnE m) 23)]) (fun (k : Nat) => (k : Int) <= 1000000 /\ ∀ u, 1 <= u -> u < 1 + (k : Int) -> ¬ m.p u = 3) (fun (k : Nat) => v.toNat - k) 0 (fun k hk => ?_) (hJ := by
  exact ⟨by omega, fun u h1 h2 => by omega⟩)
 obtain ⟨hk1, hk2⟩ := hk;apply yd;apply yb;refine yp ?_;refine yj rfl ?_ ?_<;>intro hc1
 ·apply yf;apply yd;apply X.block;apply yb;iterate 2 refine ya ?_
  refine yr (zfb m (1 + (k : Int))) ?_;refine ye ?_;refine yj rfl ?_ ?_<;>intro hc2
  ·apply yb;refine ye ?_;refine X.ret ?_;refine ym ?_;all_goals (congr 1; exact (zmM (by omega) hc1 hc2).symm)
  apply yf;apply yc;refine yp ?_
  refine yK (k + 1) (hJ := by
   refine ⟨by omega, fun u h1 h2 => ?_⟩;by_cases e : u = 1 + (k : Int)
   ·rw [e]; exact hc2
   ·exact hk2 u h1 (by omega))
 ·apply X.exit;apply yb;refine ye ?_;refine X.ret ?_;refine ym ?_;all_goals (congr 1; exact (zod fun u h1 h2 => hk2 u h1 (by omega)).symm)
set_option maxHeartbeats 2000000 in
theorem zgm (m : Mn) (nums : List Int) (most : Int) (h0 : 0 <= most) (h1 : most <= 1000) (hr : ∀ x, x ∈ nums -> -9223372036854775808 <= x /\ x <= 9223372036854775807) (hnl : nums.length <= maxLen) : Fn Tryz.prog 25 [mnA m, yg nums, iv most] (sgsA (rnL m nums most)) := by
 have hnl2 : nums.length <= 9223372036854775807 := hnl;have hq0 : [] = rnK m nums most 0 := by unfold rnK; rfl
 refine Fn.go Tryz.func25 Tryz.ntmps25 (fun g w d => ?_);apply yb;refine yH ?_;refine ye ?_;apply yb;refine yL intE [3, 4, 4, 5, 5, 3, 2, 6] ?_;refine ye ?_;apply yd;refine y2 (Imp.freeze (k := 13) rfl) ?_;apply yc;refine ye ?_;iterate 2 apply yd
 refine y2 (yZ sgE 67 17 8 8 rfl rfl) ?_;apply yc;refine ye ?_;apply X.block
 refine zd (ι := Nat) (fun (k : Nat) => [(1, yg nums), (2, iv most), (3, .ptr 3 0 0 0), (7, yg [3, 4, 4, 5, 5, 3, 2, 6]), (8, .own 8), (9, iv (k : Int))]) (fun (k : Nat) => [(3, .box (mnE m) 23), (8, .row sgE (rnK m nums most k) 67 17)]) (fun (k : Nat) => k <= nums.length) (fun (k : Nat) => nums.length - k) 0 (fun k hk => ?_) (h0 := by
  exact yx)
 apply yd;apply yb;iterate 4 refine ya ?_
 refine ExF.at 4 ?_;refine yC ?_;iterate 4 refine ExF.gi ?_
 refine yy ?_;refine ye ?_;refine yj rfl ?_ ?_<;>intro hc1
 ·obtain ⟨x, hx⟩ : ∃ x, nums[k]? = some x := ⟨_, lgg (by omega)⟩;have hx2 : nums[(k : Int).toNat]? = some x := by simpa using hx
  have hxr := hr x (List.mem_of_getElem? hx);have h504 : 0 <= x % 504 /\ x % 504 < 504 := by omega
  have hml := ziK m nums h0 k;have hv := zoj (x % 504);have hvr := zof (x % 504);apply yf;apply yd;apply X.block;apply yb;iterate 4 refine ya ?_
  refine yr (zdf x 504 hxr (by omega)) ?_;refine ye ?_;apply yb;iterate 8 refine ya ?_
  refine yI ?_;refine yi ?_;apply Ex.nil;apply yd;apply yb;refine yp ?_;apply X.block;apply yb;refine yh ?_;refine yj rfl ?_ ?_<;>intro hc2
  ·have hS : rnS k (x % 504) = ⟨2, rnV (x % 504), 0, 0, false, 0, false, false, ⟨0, 0, 0, 0⟩, false, 0, 0, 0, 0⟩ := by unfold rnS; rw [if_pos hc2]
   apply yc;(iterate 3 refine ya ?_);refine yi ?_;apply Ex.nil;apply yb;(iterate 2 refine ya ?_);refine yL sgE [⟨2, rnV (x % 504), 0, 0, false, 0, false, false, ⟨0, 0, 0, 0⟩, false, 0, 0, 0, 0⟩] ?_;refine yi ?_;refine ye ?_;apply yb;(iterate 3 refine ya ?_);refine ExF.at 3 ?_;refine yC ?_;(iterate 4 refine ExF.gi ?_);refine yy ?_;refine yh ?_;apply yb;refine ya ?_;refine ExF.at 1 ?_;refine yC ?_;(iterate 7 refine ExF.gi ?_);refine ExF.cg (zai m (rnV (x % 504)) (by omega)) ?_;refine ExF.gi ?_;refine yy ?_;refine ye ?_;refine yj rfl ?_ ?_<;>intro hc3
   ·have hrow := zfd hS hx hc1.2 hc3;apply yc;(iterate 2 refine ya ?_);refine yL sgE [zgW] ?_;refine yi ?_;refine ye ?_;apply yc;refine yp ?_;refine yK (k + 1) (hI := yx)
   ·have hrow := zfe hS hx hc1.2 hc3;apply yf;apply yc;refine yp ?_;refine yK (k + 1) (hI := yx)
  ·apply yd;apply yb;refine yh ?_;refine yj rfl ?_ ?_<;>intro hc4
   ·apply yf;refine yj rfl ?_ ?_<;>intro hc5
    ·have hS : rnS k (x % 504) = ⟨1, rnV (x % 504), (k : Int) % 9, 0, true, 0, false, false, ⟨0, 0, 0, 0⟩, false, 0, 0, 0, 0⟩ := by unfold rnS; rw [if_neg hc2, hc4]; rfl
     apply yc;refine ya ?_;refine yi ?_;apply Ex.nil;apply yb;(iterate 2 refine ya ?_);refine yL sgE [⟨1, rnV (x % 504), (k : Int) % 9, 0, true, 0, false, false, ⟨0, 0, 0, 0⟩, false, 0, 0, 0, 0⟩] ?_;refine yi ?_;refine ye ?_;apply yb;(iterate 3 refine ya ?_);refine ExF.at 3 ?_;refine yC ?_;(iterate 4 refine ExF.gi ?_);refine yy ?_;refine yh ?_;apply yb;refine ya ?_;refine ExF.at 1 ?_;refine yC ?_;(iterate 7 refine ExF.gi ?_);refine ExF.cg (zai m (rnV (x % 504)) (by omega)) ?_;refine ExF.gi ?_;refine yy ?_;refine ye ?_;refine yj rfl ?_ ?_<;>intro hc6
     ·have hrow := zfd hS hx hc1.2 hc6;apply yc;(iterate 2 refine ya ?_);refine yL sgE [zgW] ?_;refine yi ?_;refine ye ?_;apply yc;refine yp ?_;refine yK (k + 1) (hI := yx)
     ·have hrow := zfe hS hx hc1.2 hc6;apply yf;apply yc;refine yp ?_;refine yK (k + 1) (hI := yx)
    ·omega
   ·apply yc;refine yh ?_;refine yj rfl ?_ ?_<;>intro hc7
    ·have hS : rnS k (x % 504) = ⟨1, rnV (x % 504), (k : Int) % 9, 0, true, 0, false, false, ⟨0, 0, 0, 0⟩, false, 0, 0, 0, 0⟩ := by unfold rnS; rw [if_neg hc2, hc7]; rfl
     apply yc;refine ya ?_;refine yi ?_;apply Ex.nil;apply yb;(iterate 2 refine ya ?_);refine yL sgE [⟨1, rnV (x % 504), (k : Int) % 9, 0, true, 0, false, false, ⟨0, 0, 0, 0⟩, false, 0, 0, 0, 0⟩] ?_;refine yi ?_;refine ye ?_;apply yb;(iterate 3 refine ya ?_);refine ExF.at 3 ?_;refine yC ?_;(iterate 4 refine ExF.gi ?_);refine yy ?_;refine yh ?_;apply yb;refine ya ?_;refine ExF.at 1 ?_;refine yC ?_;(iterate 7 refine ExF.gi ?_);refine ExF.cg (zai m (rnV (x % 504)) (by omega)) ?_;refine ExF.gi ?_;refine yy ?_;refine ye ?_;refine yj rfl ?_ ?_<;>intro hc8
     ·have hrow := zfd hS hx hc1.2 hc8;apply yc;(iterate 2 refine ya ?_);refine yL sgE [zgW] ?_;refine yi ?_;refine ye ?_;apply yc;refine yp ?_;refine yK (k + 1) (hI := yx)
     ·have hrow := zfe hS hx hc1.2 hc8;apply yf;apply yc;refine yp ?_;refine yK (k + 1) (hI := yx)
    ·have hS : rnS k (x % 504) = ⟨1, rnV (x % 504), (k : Int) % 9, 0, false, 0, false, false, ⟨0, 0, 0, 0⟩, false, 0, 0, 0, 0⟩ := by unfold rnS; rw [if_neg hc2, decide_eq_false hc4, decide_eq_false hc7]; rfl
     apply yf;apply yb;(iterate 2 refine ya ?_);refine yL sgE [⟨1, rnV (x % 504), (k : Int) % 9, 0, false, 0, false, false, ⟨0, 0, 0, 0⟩, false, 0, 0, 0, 0⟩] ?_;refine yi ?_;refine ye ?_;apply yb;(iterate 3 refine ya ?_);refine ExF.at 3 ?_;refine yC ?_;(iterate 4 refine ExF.gi ?_);refine yy ?_;refine yh ?_;apply yb;refine ya ?_;refine ExF.at 1 ?_;refine yC ?_;(iterate 7 refine ExF.gi ?_);refine ExF.cg (zai m (rnV (x % 504)) (by omega)) ?_;refine ExF.gi ?_;refine yy ?_;refine ye ?_;refine yj rfl ?_ ?_<;>intro hc9
     ·have hrow := zfd hS hx hc1.2 hc9;apply yc;(iterate 2 refine ya ?_);refine yL sgE [zgW] ?_;refine yi ?_;refine ye ?_;apply yc;refine yp ?_;refine yK (k + 1) (hI := yx)
     ·have hrow := zfe hS hx hc1.2 hc9;apply yf;apply yc;refine yp ?_;refine yK (k + 1) (hI := yx)
 ·have hfin : rnK m nums most k = rnL m nums most := zqw (by omega) hc1;apply X.exit;apply yb;refine yh ?_;refine X.ret ?_;refine yu (Imp.freeze (k := 8) rfl) ?_;refine ym ?_;all_goals (rw [← hfin]; rfl)
end Go.Rse
namespace Go.Rse
open Go Go.Proofs
attribute [local irreducible] Pur yM yO Ex X Fn Imp LeV LeB FnO It yW FnW FnOW FnP FnD
attribute [local irreducible] rdE rdV cuV cuE leC leI leE
theorem ziM (m : Mn) (l : List Sg) (hl : l.length <= 1000) : Fn Tryz.prog 28 [rdgA (rdV m l), rdgA (rdV m l)] (.bool true) := by
 have h := zmN m hl;have := zcD (rdV m l) (rdV m l) (by omega) (by omega) (by omega) (by omega);simpa using this
set_option maxHeartbeats 4000000 in
theorem C_tactuslaw17_RuleMade (n : Int) (nums : List Int) (hn : -9223372036854775808 <= n /\ n <= 9223372036854775807) (hr : ∀ x, x ∈ nums -> -9223372036854775808 <= x /\ x <= 9223372036854775807) (hnl : nums.length <= maxLen) : Fn Tryz.prog 4 [iv n, yg nums] (.bool true) := by
 have hm := zfP n hn;generalize mMk n = m at hm;have hR := zgm m nums 16 (by decide) (by decide) hr hnl;have hlen := zoi m nums (most := 16) (by decide);generalize rnL m nums 16 = l at hR hlen;refine Fn.go Tryz.func4 Tryz.ntmps4 (fun g w d => ?_);apply yb;refine ya ?_;apply yn;refine ya ?_;refine yr hm ?_;refine yI ?_;refine yi ?_;apply yn;iterate 2 refine ya ?_
 refine yr hR ?_;refine ya ?_;apply yn;iterate 2 refine ya ?_
 refine yr (zga m l (by omega)) ?_;iterate 3 refine ya ?_
 refine yI ?_;refine yi ?_;refine ya ?_;apply yn;iterate 2 refine ya ?_
 refine yr (zeQ m l (by omega)) ?_;iterate 3 refine ya ?_
 refine yI ?_;refine yi ?_;refine ya ?_;apply yn;iterate 2 refine ya ?_
 refine yr (ziM m l (by omega)) ?_;refine ExF.at 3 ?_;refine yC ?_;iterate 3 refine ExF.gi ?_
 iterate 2 refine yC ?_
 refine ExF.cg zep ?_;refine yy ?_;refine yh ?_;refine X.ret ?_;refine ym ?_;all_goals (first | rfl | simp)
end Go.Rse
