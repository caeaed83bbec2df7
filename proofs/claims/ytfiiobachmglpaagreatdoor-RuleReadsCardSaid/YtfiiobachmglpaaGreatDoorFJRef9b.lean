/-
  Walks: the reference's combinations, cuts and additions; the statement on chosen meanings.
-/
import Derived.Test.YtfiiobachmglpaaGreatDoorFDotB
import Derived.Test.YtfiiobachmglpaaGreatDoorFRefA
import Derived.Test.YtfiiobachmglpaaGreatDoorFJKit1
import Derived.Test.YtfiiobachmglpaaGreatDoorFLvlA
import Derived.Test.YtfiiobachmglpaaGreatDoorFColB
import Derived.Test.YtfiiobachmglpaaGreatDoorFLogB
set_option linter.unusedSimpArgs false
set_option linter.unusedVariables false
namespace Go.Rse
open Go Go.Proofs
attribute [local irreducible] Pur yK yM Ex X Fn Imp LeV LeB FnO It yW
theorem zfV (l : List Int) (x : Int) (hl : l.length <= 4000000000) : Fn Tryz.prog 222 [yg l, iv x] (.bool (decide (x ∈ l))) := by
 refine Fn.go Tryz.func222 Tryz.ntmps222 (fun g w d => ?_);apply yb;refine ye ?_;apply yd;apply yb;refine ye ?_;apply X.block
 refine y9 (ι := Nat) (fun (k : Nat) => [(0, yg l), (1, iv x), (5, iv (k : Int))]) (fun (k : Nat) => []) (fun (k : Nat) => k <= l.length /\ ∀ (i : Nat) u, i < k -> l[i]? = some u -> ¬ u = x) (fun (k : Nat) => l.length - k) 0 (fun k hk => ?_) (hJ := by
  exact ⟨by omega, fun i u h => absurd h (Nat.not_lt_zero i)⟩)
 obtain ⟨hk1, hk2⟩ := hk;apply yd;apply yb;refine yX ?_;refine yk rfl ?_ ?_<;>intro hc1
 ·obtain ⟨v, hv⟩ : ∃ v, l[k]? = some v := ⟨_, lgg (by omega)⟩;have hv2 : l[(k : Int).toNat]? = some v := by simpa using hv
  apply yf;apply yd;apply X.block;apply yb;iterate 5 refine ya ?_
  refine ye ?_;refine yk rfl ?_ ?_<;>intro hc2
  ·apply yb;refine ye ?_;refine X.ret ?_;refine ym ?_;all_goals (congr 1; exact (decide_eq_true (by rw [← hc2]; exact List.mem_of_getElem? hv)).symm)
  apply yf;apply yc;refine yp ?_
  refine yL (k + 1) (hJ := by
   refine ⟨by omega, fun i u hi hu => ?_⟩;rcases Nat.lt_succ_iff_lt_or_eq.1 hi with h | h
   ·exact hk2 i u h hu
   ·subst h; rw [hv] at hu; injection hu with hu; subst hu; exact hc2)
 ·apply X.exit;apply yb;refine ye ?_;refine X.ret ?_;refine ym ?_;all_goals (congr 1; exact (decide_eq_false (zn8 fun i u hi => hk2 i u (by omega))).symm)
set_option maxHeartbeats 4000000 in
theorem zew (m : Mn) (l : List Sg) (hl : l.length <= 1000) (ch : List Int) (hch : ch.length <= 4000000) : Fn Tryz.prog 145 [mnA m, sgsA l, yg ch] (.tup [yg (mkC m l ch), zbd (mkA m l ch), iv (mkE m l ch)]) := by
 obtain ⟨L0, hX, hM⟩ : ∃ L0, (ckD m l = 0 -> L0 = mnsD m l) /\ Fn Tryz.prog 221 [mnA m, sgsA l] (.tup [zb9 L0, iv (ckD m l)]) := ⟨_, fun h => if_pos h, C_tactusref09_Meanings' m l hl⟩;refine Fn.go Tryz.func145 Tryz.ntmps145 (fun g w d => ?_);apply yb;refine yH ?_;iterate 3 refine ya ?_
 apply yn;iterate 2 refine ya ?_
 refine yr hM ?_;refine y4 ?_;apply yd;apply yb;refine yh ?_;refine yk rfl ?_ ?_<;>intro hc1
 ·have hE : mkE m l ch = ckD m l := by unfold mkE; rw [if_neg hc1]
  have hC : mkC m l ch = [] := by unfold mkC; rw [if_neg (by rw [hE]; exact hc1)]
  have hA : mkA m l ch = [] := by unfold mkA; rw [if_neg (by rw [hE]; exact hc1)]
  apply yb;refine yX ?_;refine X.ret ?_;refine yu (yl (ts := [(6, yg []), (7, zbd []), (8, iv (ckD m l))]) (hs := [])) ?_;refine RetQ.ret (.many (by decide) (.cons (.tmp rfl (LeV.eq ?_)) (.cons (.tmp rfl (LeV.eq ?_)) (.cons (.tmp rfl (LeV.eq ?_)) .nil))));all_goals (first | (rw [hC]; done) | (rw [hA]; done) | (rw [hE]; done) | (rw [hC]; rfl) | (rw [hA]; rfl) | (rw [hE]; rfl))
 have hX2 := hX hc1;subst hX2;have hml := zfe m l;have hcf := zgW hc1;have hdl : (mnsD m l).length = (yU l l.length).length := by simp [mnsD]
 apply yf;apply yd;apply yb;refine y4 ?_;refine yk rfl ?_ ?_<;>intro hc2
 ·have hE : mkE m l ch = 2 := by unfold mkE; rw [if_pos hc1, if_neg (fun h => by have := h.1; omega)]
  have hC : mkC m l ch = [] := by unfold mkC; rw [if_neg (by omega)]
  have hA : mkA m l ch = [] := by unfold mkA; rw [if_neg (by omega)]
  apply yb;refine yp ?_;refine X.ret ?_;refine yu (yl (ts := [(6, yg []), (7, zbd []), (8, iv 2)]) (hs := [])) ?_;refine RetQ.ret (.many (by decide) (.cons (.tmp rfl (LeV.eq ?_)) (.cons (.tmp rfl (LeV.eq ?_)) (.cons (.tmp rfl (LeV.eq ?_)) .nil))));all_goals (first | (rw [hC]; done) | (rw [hA]; done) | (rw [hE]; done) | (rw [hC]; rfl) | (rw [hA]; rfl) | (rw [hE]; rfl))
 apply yf;apply yd;apply yb;refine ye ?_;apply X.block
 refine y9 (ι := Nat) (fun (k : Nat) => [(1, sgsA l), (2, yg ch), (9, zb9 (mnsD m l)), (11, iv (k : Int))]) (fun (k : Nat) => []) (fun (k : Nat) => k <= (mnsD m l).length /\ ∀ i, i < k -> ∀ x v, (mnsD m l)[i]? = some x -> ch[i]? = some v -> v ∈ x) (fun (k : Nat) => (mnsD m l).length - k) 0 (fun k hk => ?_) (hJ := by
  exact ⟨by omega, fun i h => absurd h (Nat.not_lt_zero i)⟩)
 obtain ⟨hk1, hk2⟩ := hk;apply yd;apply yb;refine yX ?_;refine yk rfl ?_ ?_<;>intro hc3
 ·obtain ⟨x, hx⟩ : ∃ x, (mnsD m l)[k]? = some x := ⟨_, lgg (by omega)⟩;have hx2 : (mnsD m l)[(k : Int).toNat]? = some x := by simpa using hx
  obtain ⟨c, hcc⟩ : ∃ c, ch[k]? = some c := ⟨_, lgg (by omega)⟩;have hcc2 : ch[(k : Int).toNat]? = some c := by simpa using hcc
  have hxl := zh3 (List.mem_of_getElem? hx);apply yf;apply yd;apply X.block;apply yd;refine zi [36,37,38,39,40,41,42,43,44,45] [0,0,3,7,0,0,48,112,255,511] mo ?_;iterate 8 refine yj ?_
  refine zj (zfV x c (by omega)) ?_;refine yj ?_;refine yR ?_;apply Ex.nil;refine yk rfl ?_ ?_<;>intro hc4
  ·have hE : mkE m l ch = 2 := by unfold mkE; rw [if_pos hc1, if_neg (fun h => hc4 (zdE.1 h.2 k x c hx hcc))]
   have hC : mkC m l ch = [] := by unfold mkC; rw [if_neg (by omega)]
   have hA : mkA m l ch = [] := by unfold mkA; rw [if_neg (by omega)]
   apply yb;refine yp ?_;refine X.ret ?_;refine yu (yl (ts := [(6, yg []), (7, zbd []), (8, iv 2)]) (hs := [])) ?_;refine RetQ.ret (.many (by decide) (.cons (.tmp rfl (LeV.eq ?_)) (.cons (.tmp rfl (LeV.eq ?_)) (.cons (.tmp rfl (LeV.eq ?_)) .nil))));all_goals (first | (rw [hC]; done) | (rw [hA]; done) | (rw [hE]; done) | (rw [hC]; rfl) | (rw [hA]; rfl) | (rw [hE]; rfl))
  apply yf;apply yc;refine yp ?_
  refine yL (k + 1) (hJ := by
   refine ⟨by omega, fun i hi x1 v1 h1 h2 => ?_⟩;rcases Nat.lt_succ_iff_lt_or_eq.1 hi with h | h
   ·exact hk2 i h x1 v1 h1 h2
   ·subst h; rw [hx] at h1; rw [hcc] at h2; injection h1 with h1; injection h2 with h2; subst h1; subst h2; exact hc4)
 ·have hok : chOk ch (mnsD m l) := zdE.2 fun i x v hx hv => hk2 i (by have := (List.getElem?_eq_some_iff.1 hx).1; omega) x v hx hv
  have hE : mkE m l ch = 0 := by unfold mkE; rw [if_pos hc1, if_pos ⟨by omega, hok⟩]
  have hC : mkC m l ch = (mkK ch l l.length).1 := by unfold mkC; rw [if_pos hE]
  have hA : mkA m l ch = (mkK ch l l.length).2.1 := by unfold mkA; rw [if_pos hE]
  apply X.exit;apply yb;refine ya ?_;apply yn;refine ya ?_;apply yn;refine ye ?_;iterate 2 apply yd
  refine y3 (yZ intE 3 1 12 101 rfl rfl) ?_;refine y3 (yZ zd 4 1 13 102 rfl rfl) ?_;apply yc;refine ye ?_;apply X.block;refine y9 (ι := Nat) (fun (k : Nat) => [(1, sgsA l), (2, yg ch), (12, .own 101), (13, .own 102), (14, iv ((mkK ch l k).2.2 : Int)), (15, iv (k : Int))]) (fun (k : Nat) => [(101, .row intE (mkK ch l k).1 3 1), (102, .row zd (mkK ch l k).2.1 4 1)]) (fun (k : Nat) => k <= l.length) (fun (k : Nat) => l.length - k) 0 (fun k hk => ?_);apply yd;apply yb;refine yX ?_;refine yk rfl ?_ ?_<;>intro hc5
  ·obtain ⟨s, hs⟩ : ∃ s, l[k]? = some s := ⟨_, lgg (by omega)⟩;have hs2 : l[(k : Int).toNat]? = some s := by simpa using hs
   obtain ⟨hm1, hm2, hm3⟩ := zgC ch l k;apply yf;apply yd;apply X.block;apply yd;apply yb;(iterate 5 refine ya ?_);refine ye ?_;refine yk rfl ?_ ?_<;>intro hc6
   ·have h6 := zdD (ch := ch) hs hc6;have hr1 : (mkK ch l k).1 ++ [0] = (mkK ch l (k + 1)).1 := by rw [h6]
    have hr2 : (mkK ch l k).2.1 ++ [false] = (mkK ch l (k + 1)).2.1 := by rw [h6]
    have hq1 : ((mkK ch l k).2.2 : Int) = ((mkK ch l (k + 1)).2.2 : Int) := by rw [h6]
    apply yb;refine ya ?_;refine yO intE [_] ?_;refine yi ?_;refine ya ?_;apply yn;refine ya ?_;refine yO zd [_] ?_;refine yi ?_;refine ye ?_;apply X.exit;apply yc;refine yp ?_;refine yL (k + 1)
   have h6 := zff (ch := ch) hs hc6;have hmo := zeQ l l.length (k + 1) (by omega);have hdk : (yU l (k + 1)).length = (yU l k).length + 1 := by simp [yU, hs, hc6]
   have hkp := zkU hcf hs hc6;have hpos := ziC (ch := ch) hcf k hkp (by omega);have hcq : ch[((mkK ch l k).2.2 : Int).toNat]? = some (ch.getD (mkK ch l k).2.2 0) := by rw [Int.toNat_natCast, List.getD_eq_getElem?_getD, lgg (by omega)]; rfl
   have hr1 : (mkK ch l k).1.set (((mkK ch l k).1.length : Int) - 1).toNat (ch.getD (mkK ch l k).2.2 0) = (mkK ch l (k + 1)).1 := by rw [h6]
   have hr2 : (mkK ch l k).2.1.set (((mkK ch l k).2.1.length : Int) - 1).toNat (decide (ch.getD (mkK ch l k).2.2 0 = 0)) = (mkK ch l (k + 1)).2.1 := by rw [h6]
   have hq1 : ((mkK ch l k).2.2 : Int) + 1 = ((mkK ch l (k + 1)).2.2 : Int) := by rw [h6]; simp
   apply yf;apply yb;(iterate 9 refine ya ?_);refine yi ?_;apply yn;(iterate 10 refine ya ?_);refine yi ?_;apply Ex.nil;apply yc;refine yp ?_;apply yc;refine yp ?_;refine yL (k + 1)
  ·have hkl : k = l.length := by omega
   subst hkl;apply X.exit;apply yb;refine y4 ?_;refine X.ret ?_;refine yu ((Imp.freeze (k := 101) rfl).trans (Imp.freeze (k := 102) rfl)) ?_;refine RetQ.ret (.many (by decide) (.cons (.tmp rfl (LeV.eq ?_)) (.cons (.tmp rfl (LeV.eq ?_)) (.cons (.tmp rfl (LeV.eq ?_)) .nil))));all_goals (first | (rw [hC]; done) | (rw [hA]; done) | (rw [hE]; done) | (rw [hC]; rfl) | (rw [hA]; rfl) | (rw [hE]; rfl))
attribute [local irreducible] mnsD ckD
end Go.Rse
namespace Go.Rse
open Go Go.Proofs
attribute [local irreducible] Pur yK yM Ex X Fn Imp LeV LeB FnO It yW
def rmOk (m : Mn) (v : Int) : Bool := decide (rmV (zo m v) ⟨3, 2⟩ = mulV (zo m v) ⟨3, 2⟩) && decide (rmV (durT m v) ⟨3, 2⟩ = mulV (durT m v) ⟨3, 2⟩)
theorem zmP : zjp rmOk = true := by kernel_rfl
theorem zr3 {m : Mn} {s : Sg} {z : Tm} (hm : ckM m = 0) (h1 : 1 <= s.Value) (h8 : s.Value <= 8) (hz : z = bsT m s \/ z = ⟨3, 2⟩ \/ z = ⟨1, 2⟩) : rmV z ⟨3, 2⟩ = mulV z ⟨3, 2⟩ := by
 rcases hz with rfl | rfl | rfl
 ·have h := zfR zmP hm h1 h8;unfold rmOk at h;simp only [Bool.and_eq_true, decide_eq_true_eq] at h;unfold bsT; split
  ·exact h.2
  ·exact h.1
 ·decide +kernel
 ·decide +kernel
attribute [local irreducible] mkC mkA mkE duV duE itK itOf ckD mulV mulE rmV rmE
set_option maxHeartbeats 4000000 in
theorem zex (m : Mn) (l : List Sg) (ch mi : List Int) (hl : l.length <= 1000) (hch : ch.length <= 4000000) (hmi : mi.length <= 1000) : Fn Tryz.prog 81 [mnA m, sgsA l, yg ch, yg mi] (.tup [itsA (itmV m l ch mi), iv (itmE m l ch mi)]) := by
 refine Fn.go Tryz.func81 Tryz.ntmps81 (fun g w d => ?_);apply yb;refine yH ?_;iterate 2 refine ya ?_
 apply yn;iterate 3 refine ya ?_
 refine yr (zew m l hl ch hch) ?_;iterate 6 refine ya ?_
 refine ye ?_;apply yd;apply yb;refine yh ?_;refine yk rfl ?_ ?_<;>intro hc1
 ·have hE : itmE m l ch mi = mkE m l ch := zkm hc1;have hV : itmV m l ch mi = [] := zgZ (by rw [hE]; exact hc1);apply yb;refine yp ?_;refine X.ret ?_;refine yu (yl (ts := [(8, itsA []), (9, iv (mkE m l ch))]) (hs := [])) ?_;refine yz ?_ ?_;all_goals (first | (rw [hV]; done) | (rw [hE]; done) | (rw [hV]; rfl) | (rw [hE]; rfl))
 apply yf;apply yb;iterate 3 refine ya ?_
 refine yr (zeS m l mi hl hmi) ?_;refine y4 ?_;apply yd;apply yb;refine yh ?_;refine yk rfl ?_ ?_<;>intro hc2
 ·have hE : itmE m l ch mi = duE m l mi := ziL hc1;have hV : itmV m l ch mi = [] := zgZ (by rw [hE]; exact hc2);apply yb;refine yp ?_;refine X.ret ?_;refine yu (yl (ts := [(8, itsA []), (9, iv (duE m l mi))]) (hs := [])) ?_;refine yz ?_ ?_;all_goals (first | (rw [hV]; done) | (rw [hE]; done) | (rw [hV]; rfl) | (rw [hE]; rfl))
 have hE : itmE m l ch mi = 0 := (ziL hc1).trans hc2;have hV := zkn hE;apply yf;apply yb;refine ye ?_;iterate 2 apply yd
 refine y3 (yZ itE 62 12 14 201 rfl rfl) ?_;apply yc;refine ye ?_;apply X.block;have hr0 := zpD l (mkC m l ch) (mkA m l ch) (duV m l mi);refine y9 (ι := Nat) (fun (k : Nat) => [(1, sgsA l), (10, yg (mkC m l ch)), (11, zbd (mkA m l ch)), (13, tmsA (duV m l mi)), (14, .own 201), (15, iv (k : Int))]) (fun (k : Nat) => [(201, .row itE (itK l (mkC m l ch) (mkA m l ch) (duV m l mi) k) 62 12)]) (fun (k : Nat) => k <= l.length) (fun (k : Nat) => l.length - k) 0 (fun k hk => ?_);apply yd;apply yb;refine yX ?_;refine yk rfl ?_ ?_<;>intro hc3
 ·obtain ⟨s, hs⟩ : ∃ s, l[k]? = some s := ⟨_, lgg (by omega)⟩;have hs2 : l[(k : Int).toNat]? = some s := by simpa using hs
  have hnt := ziK l (mkC m l ch) (mkA m l ch) (duV m l mi) k;have hnl := ziI l k;apply yf;apply yd;apply X.block;apply yd;apply yb;iterate 5 refine ya ?_
  refine ye ?_;refine yk rfl ?_ ?_<;>intro hc4
  ·have hst := ziJ (c := mkC m l ch) (a := mkA m l ch) (d := duV m l mi) hs hc4;apply X.exit;apply yc;refine yp ?_;refine yL (k + 1)
  obtain ⟨x, y, z, hx, hy, hz, hmul, hlt, hm, v1, v8, hzz⟩ := zpF hc1 hc2 hs hc4;have hst := zmG hs hc4 hx hy hz;have hx2 : (mkC m l ch)[((itK l (mkC m l ch) (mkA m l ch) (duV m l mi) k).length : Int).toNat]? = some x := by rw [hnt]; simpa using hx
  have hy2 : (mkA m l ch)[((itK l (mkC m l ch) (mkA m l ch) (duV m l mi) k).length : Int).toNat]? = some y := by rw [hnt]; simpa using hy
  have hz2 : (duV m l mi)[((itK l (mkC m l ch) (mkA m l ch) (duV m l mi) k).length : Int).toNat]? = some z := by rw [hnt]; simpa using hz
  have hk12 := zn7 (zmJ hc1) hs hc4;have hB15 : [iv k, iv s.Value, .bool (decide (s.Kind = 2)), .bool (s.Color && !decide (s.Kind = 2)), .bool false, iv x, iv z.N, iv z.D, iv 0, iv 1, iv 0, iv 1] = [iv k, iv s.Value, .bool (decide (s.Kind = 2)), .bool (decide (s.Kind = 1) && s.Color), .bool false, iv x, iv z.N, iv z.D, iv 0, iv 1, iv 0, iv 1] := by rw [zqj hk12]
  have hMul := zfC z ⟨3, 2⟩;rw [zr3 hm v1 v8 hzz] at hMul;rw [← zrR hk12] at hst;apply yf;apply yb;refine yp ?_;refine zc6 ⟨[(1, sgsA l), (10, yg (mkC m l ch)), (11, zbd (mkA m l ch)), (13, tmsA (duV m l mi)), (14, .own 201), (15, iv (k : Int)), (16, iv ((itK l (mkC m l ch) (mkA m l ch) (duV m l mi) k).length : Int)), (17, .ptr 17 0 0 0)], [(201, .row itE (itK l (mkC m l ch) (mkA m l ch) (duV m l mi) k) 62 12), (17, .box [iv k, iv s.Value, .bool (decide (s.Kind = 2)), .bool false, .bool false, iv x, iv z.N, iv z.D, iv 0, iv 1, iv 0, iv 1] 62)]⟩ (fun hJ14 => ?_) ?_
  ·refine zi [17,53,54,55,56,57,58,59,60,61,62,63,64,65,66,67,68,69,70,71,72,73,74,75] [0,0,0,6,14,30,0,0,192,448,960,1984,0,0,12288,28672,0,0,196608,458752,0,0,4194303,0,16777215] mo ?_;(iterate 23 refine yj ?_);refine ChM.step rfl rfl rfl (zA (k := 17) zc62) rfl ?_;refine yR ?_;refine yi ?_;apply Ex.nil;exact y3 yx hJ14
  refine zc6 ⟨[(1, sgsA l), (10, yg (mkC m l ch)), (11, zbd (mkA m l ch)), (13, tmsA (duV m l mi)), (14, .own 201), (15, iv (k : Int)), (16, iv ((itK l (mkC m l ch) (mkA m l ch) (duV m l mi) k).length : Int)), (17, .ptr 17 0 0 0)], [(201, .row itE (itK l (mkC m l ch) (mkA m l ch) (duV m l mi) k) 62 12), (17, .box [iv k, iv s.Value, .bool (decide (s.Kind = 2)), .bool (decide (s.Kind = 1) && s.Color), .bool false, iv x, iv z.N, iv z.D, iv 0, iv 1, iv 0, iv 1] 62)]⟩ (fun hJ15 => ?_) ?_
  ·apply yc;(iterate 5 refine ya ?_);refine ExF.at 5 ?_;refine yC ?_;(iterate 3 refine ExF.gi ?_);refine yA ?_;(iterate 2 refine ya ?_);refine yi ?_;apply Ex.nil;exact y3 yx hJ15
  apply yd;apply yb;refine yX ?_;refine yk rfl ?_ ?_<;>intro hc5
  ·subst hc5;apply yc;(iterate 3 refine ya ?_);refine yr hMul ?_;(iterate 4 refine ya ?_);refine yi ?_;apply yn;(iterate 2 refine ya ?_);refine ExF.at 2 ?_;refine yC ?_;(iterate 2 refine ExF.gi ?_);(iterate 2 refine yC ?_);(iterate 4 refine ExF.gi ?_);(iterate 2 refine yC ?_);(iterate 5 refine ExF.gi ?_);refine yA ?_;(iterate 2 refine ya ?_);refine yi ?_;apply Ex.nil;apply yc;(iterate 2 refine ya ?_);refine yO itE [itL k s (decide (s.Kind = 2) || (decide (s.Kind = 1) && s.Color) || true || decide (x = s.Value)) x (mulV z ⟨3, 2⟩)] ?_;refine yi ?_;refine ye ?_;apply yc;refine yp ?_;refine yL (k + 1)
  ·subst hc5;apply yf;apply yb;(iterate 2 refine ya ?_);refine ExF.at 2 ?_;refine yC ?_;(iterate 2 refine ExF.gi ?_);(iterate 2 refine yC ?_);(iterate 4 refine ExF.gi ?_);(iterate 2 refine yC ?_);(iterate 5 refine ExF.gi ?_);refine yA ?_;(iterate 2 refine ya ?_);refine yi ?_;apply Ex.nil;apply yc;(iterate 2 refine ya ?_);refine yO itE [itL k s (decide (s.Kind = 2) || (decide (s.Kind = 1) && s.Color) || false || decide (x = s.Value)) x z] ?_;refine yi ?_;refine ye ?_;apply yc;refine yp ?_;refine yL (k + 1)
 ·have hkl : k = l.length := by omega
  subst hkl;apply X.exit;apply yb;refine yp ?_;refine X.ret ?_;refine yu (Imp.freeze (k := 201) rfl) ?_;refine yz ?_ ?_;all_goals (first | (rw [hV]; done) | (rw [hE]; done) | (rw [hV]; rfl) | (rw [hE]; rfl))
end Go.Rse
namespace Go.Rse
open Go Go.Proofs
attribute [local irreducible] Pur yK yM Ex X Fn Imp LeV LeB FnO It yW
attribute [local irreducible] ckD zm twos prL
set_option maxHeartbeats 4000000 in
theorem zjC (m : Mn) (l : List Sg) (hl : l.length <= 1000) : Fn Tryz.prog 32 [mnA m, sgsA l] (.tup [yg (if ckD m l = 0 then zm m l else []), yg (twos (prL m l).length), iv (ckD m l)]) := by
 refine Fn.go Tryz.func32 Tryz.ntmps32 (fun g w d => ?_);apply yb;refine yH ?_;iterate 3 refine ya ?_
 apply yn;iterate 2 refine ya ?_
 refine yr (zki m l hl) ?_;refine y4 ?_;apply yd;apply yb;refine yh ?_;refine yk rfl ?_ ?_<;>intro hc1
 ·have ht : [] = twos (prL m l).length := by rw [zkh hc1]; unfold twos; rfl
  have hr : [] = (if ckD m l = 0 then zm m l else []) := by rw [if_neg hc1]
  apply yb;refine yX ?_;refine X.ret ?_;refine yu (yl (ts := [(4, yg []), (5, yg []), (6, iv (ckD m l))]) (hs := [])) ?_;refine RetQ.ret (.many (by decide) (.cons (.tmp rfl (LeV.eq ?_)) (.cons (.tmp rfl (LeV.eq ?_)) (.cons (.tmp rfl (LeV.eq ?_)) .nil))));all_goals (first | exact congrArg yg ht | exact congrArg yg hr | rfl)
 apply yf;apply yb;iterate 2 refine ya ?_
 refine yr (ziA m l hl) ?_;refine y4 ?_;apply yd;apply yb;refine yh ?_;refine yk rfl ?_ ?_<;>intro hc2
 ·exact absurd hc1 hc2
 apply yf;apply yb;refine y4 ?_;refine X.ret ?_;refine RetQ.ret (.many (by decide) (.cons (.tmp rfl (LeV.eq ?_)) (.cons (.tmp rfl (LeV.eq ?_)) (.cons (.tmp rfl (LeV.eq ?_)) .nil))));all_goals (first | rfl | exact congrArg (AV.int .i64) hc1.symm)
end Go.Rse
namespace Go.Rse
open Go Go.Proofs
attribute [local irreducible] Pur yK yM Ex X Fn Imp LeV LeB FnO It yW
attribute [local irreducible] ckD zm twos prL mnsD
theorem zeV (m : Mn) (l : List Sg) (hl : l.length <= 1000) : Fn Tryz.prog 80 [mnA m, sgsA l] (.tup [yg (if ckD m l = 0 then zm m l else []), yg (twos (prL m l).length), iv (ckD m l)]) := by
 refine Fn.go Tryz.func80 Tryz.ntmps80 (fun g w d => ?_);apply yb;refine yH ?_;iterate 3 refine ya ?_
 apply yn;iterate 2 refine ya ?_
 refine yr (zeC m l hl) ?_;refine y4 ?_;apply yd;apply yb;refine yh ?_;refine yk rfl ?_ ?_<;>intro hc1
 ·have ht : [] = twos (prL m l).length := by rw [zkh hc1]; unfold twos; rfl
  have hr : [] = (if ckD m l = 0 then zm m l else []) := by rw [if_neg hc1]
  apply yb;refine yX ?_;refine X.ret ?_;refine yu (yl (ts := [(4, yg []), (5, yg []), (6, iv (ckD m l))]) (hs := [])) ?_;refine RetQ.ret (.many (by decide) (.cons (.tmp rfl (LeV.eq ?_)) (.cons (.tmp rfl (LeV.eq ?_)) (.cons (.tmp rfl (LeV.eq ?_)) .nil))));all_goals (first | exact congrArg yg ht | exact congrArg yg hr | rfl)
 apply yf;apply yb;iterate 2 refine ya ?_
 refine yr (zeP m l hl) ?_;refine y4 ?_;apply yd;apply yb;refine yh ?_;refine yk rfl ?_ ?_<;>intro hc2
 ·exact absurd hc1 hc2
 apply yf;apply yb;refine y4 ?_;refine X.ret ?_;refine RetQ.ret (.many (by decide) (.cons (.tmp rfl (LeV.eq ?_)) (.cons (.tmp rfl (LeV.eq ?_)) (.cons (.tmp rfl (LeV.eq ?_)) .nil))));all_goals (first | rfl | exact congrArg (AV.int .i64) hc1.symm)
end Go.Rse
namespace Go.Rse
open Go Go.Proofs Go.RowKit
attribute [local irreducible] Pur yK yM Ex X Fn Imp LeV LeB FnO It yW
theorem ckDR {m : Mn} {l : List Sg} (h : ckR m l = 0) : ckD m l = 0 := by rw [zka]; exact h
theorem prR {m : Mn} {l : List Sg} {pr : List Int} (h : ckR m l = 0) (h2 : zN m l = pr) : prL m l = pr := by unfold prL; rw [if_pos (ckDR h)]; exact h2
theorem zmQ (m : Mn) (l : List Sg) (ch mi : List Int) : (itmV m l ch mi).length <= l.length := by
 unfold itmV; split
 ·rw [ziK]; exact ziI l _
 ·simp
attribute [local irreducible] itmE itmV zm ckD twos prL
end Go.Rse
