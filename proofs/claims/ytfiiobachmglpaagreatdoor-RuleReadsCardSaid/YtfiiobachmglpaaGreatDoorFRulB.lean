/-
  Walks: the step of a reading by the rule.
  Walks: the deferred end of a reading by the rule.
  Walks: all levels by the rule.
-/
import Derived.Test.YtfiiobachmglpaaGreatDoorFRulA
import Derived.Test.YtfiiobachmglpaaGreatDoorFLogD
set_option linter.unusedSimpArgs false
set_option linter.unusedVariables false
namespace Go.Rse
open Go Go.Proofs
attribute [local irreducible] Pur yK yM Ex X Fn Imp LeV LeB FnO It yW FnW FnOW FnP
attribute [local irreducible] cuV cuE apV apE leE leC leI lvN lvF ckM perfL ckIE ckIX
theorem zhG (m : Mn) (l : List Ite) (C : List Int) : FnO Tryz.prog 73 [.ptr 2000000 0 0 0] [(2000000, .box [iv m.Max, iv m.Mod, iv m.Tem, iv m.Pro, yg [], itsA l, .own 2000001] 117), (2000001, .row intE (C) 3 1)] [2000000, 2000001] (.nilf) [(2000000, .box [iv m.Max, iv m.Mod, iv m.Tem, iv m.Pro, yg [], itsA l, .own 2000001] 117), (2000001, .row intE (C) 3 1)] := by
 refine FnO.introX (ts := [(0, .ptr 2000000 0 0 0)]) (rv := [.tmp 2]) (n := 75) (cs := [.ptr 2000000 0 0 0, .own 2000001]) (by kernel_rfl) Tryz.func73 rfl Tryz.ntmps73 rfl rfl (by simp) rfl rfl rfl rfl (fun g w d vs => ?_);apply yb;refine ye ?_;apply yd;apply yb;refine ya ?_;refine ya ?_ (hs := by exact yo rfl);refine yX ?_;refine yk rfl ?_ ?_<;>intro hc1
 ·apply yb;refine ye ?_;refine X.ret ?_;refine zlC.mk [(2, .nilf)] [] (.inr rfl) (.one (.tmp rfl (LeV.eq ?_)));all_goals (rfl)
 exact absurd rfl hc1
theorem zgB (m : Mn) (l : List Ite) (C : List Int) (k : Int) (r : List Int) (hk : 1 <= k /\ k <= 4) (hl : l.length <= 1000) (hC : C.length <= 1000000) (h0 : ¬ cuE m k l = 0) : FnP Tryz.prog 73 [.ptr 2000000 0 0 0] [(2000000, .box [iv m.Max, iv m.Mod, iv m.Tem, iv m.Pro, yg (k :: r), itsA l, .own 2000001] 117), (2000001, .row intE (C) 3 1)] [2000000, 2000001] (ifV 113 .i64 (cuE m k l)) [(2000000, .box [iv m.Max, iv m.Mod, iv m.Tem, iv m.Pro, yg r, itsA l, .own 2000001] 117), (2000001, .row intE (C) 3 1)] := by
 have hx0 : (k :: r)[(0 : Int).toNat]? = some k := rfl;have hap0 := hk.1;have hcl := zgU (m := m) (k := k) (l := l);refine FnP.intro (ts := [(0, .ptr 2000000 0 0 0)]) (n := 75) (cs := [.ptr 2000000 0 0 0, .own 2000001]) (by kernel_rfl) Tryz.func73 rfl Tryz.ntmps73 rfl (by simp) rfl rfl rfl rfl (fun g w d vs => ?_);apply yb;refine ye ?_;apply yd;apply yb;refine ya ?_;refine ya ?_ (hs := by exact yo rfl);refine yX ?_;refine yk rfl ?_ ?_<;>intro hc1
 ·exact absurd hc1 (by simp; omega)
 apply yf;apply yb;refine ya ?_;refine ya ?_ (hs := by exact yo rfl);iterate 5 refine ya ?_
 apply yn;iterate 2 refine ya ?_
 refine ya ?_ (hs := by exact yo rfl);iterate 2 refine ya ?_
 first
  | refine zbr (zc0 rfl rfl rfl sl27 ty3 (by omega) (by omega)) rfl ?_
  | refine zbr (zgl rfl rfl sl27 ty3 (fun _ => rfl) (by omega) (by omega)) rfl ?_
 refine ya ?_ (hs := by exact yo rfl);refine ya ?_;refine yi ?_;apply Ex.nil;apply yd;refine zi [4,5,26,27,28,29,30,31,32,33,34,35,36,37,38] [0,1,3,7,0,0,32,96,224,511,1023,2047,2047,4095,16383] mo ?_;refine yj ?_;refine yj ?_ (hs := by exact yo rfl);iterate 4 refine yj ?_
 refine yj ?_ (hs := by exact yo rfl);iterate 2 refine yj ?_
 refine zj (zeN m k l (by omega) (by omega) (by omega)) ?_;iterate 5 refine yj ?_
 refine yR ?_;apply Ex.nil;apply yd;apply yb;refine yh ?_;refine yk rfl ?_ ?_<;>intro hc2
 ·(refine yc ?_; refine ya ?_; refine ya ?_; refine ya (hs := by exact zi7 rfl ⟨_, Tryz.underlying113⟩) ?_; refine Ex.panic ?_; exact zp0.mk)
 exact absurd hc2 h0
set_option maxHeartbeats 2000000 in
theorem zhV (m : Mn) (l : List Ite) (C : List Int) (k : Int) (r : List Int) (hk : 1 <= k /\ k <= 4) (hl : l.length <= 1000) (hC : C.length <= 1000000) (h0 : cuE m k l = 0) : FnO Tryz.prog 73 [.ptr 2000000 0 0 0] [(2000000, .box [iv m.Max, iv m.Mod, iv m.Tem, iv m.Pro, yg (k :: r), itsA l, .own 2000001] 117), (2000001, .row intE (C) 3 1)] [2000000] (.fn 73 []) [(2000000, .box [iv m.Max, iv m.Mod, iv m.Tem, iv m.Pro, yg r, itsA (apV m k l (cuV m k l)), .own 2000012] 117), (2000012, .row intE (C ++ (cuV m k l)) 3 1)] := by
 have hx0 : (k :: r)[(0 : Int).toNat]? = some k := rfl;have hap0 := hk.1;have hcl := zgU (m := m) (k := k) (l := l);have hap := zld h0;refine FnO.introX (ts := [(0, .ptr 2000000 0 0 0)]) (rv := [.tmp 2]) (n := 75) (cs := [.ptr 2000000 0 0 0]) (by kernel_rfl) Tryz.func73 rfl Tryz.ntmps73 rfl rfl (by simp) rfl rfl rfl rfl (fun g w d vs => ?_);apply yb;refine ye ?_;apply yd;apply yb;refine ya ?_;refine ya ?_ (hs := by exact yo rfl);refine yX ?_;refine yk rfl ?_ ?_<;>intro hc1
 ·exact absurd hc1 (by simp; omega)
 apply yf;apply yb;refine ya ?_;refine ya ?_ (hs := by exact yo rfl);iterate 5 refine ya ?_
 apply yn;iterate 2 refine ya ?_
 refine ya ?_ (hs := by exact yo rfl);iterate 2 refine ya ?_
 first
  | refine zbr (zc0 rfl rfl rfl sl27 ty3 (by omega) (by omega)) rfl ?_
  | refine zbr (zgl rfl rfl sl27 ty3 (fun _ => rfl) (by omega) (by omega)) rfl ?_
 refine ya ?_ (hs := by exact yo rfl);refine ya ?_;refine yi ?_;apply Ex.nil;apply yd;refine zi [4,5,26,27,28,29,30,31,32,33,34,35,36,37,38] [0,1,3,7,0,0,32,96,224,511,1023,2047,2047,4095,16383] mo ?_;refine yj ?_;refine yj ?_ (hs := by exact yo rfl);iterate 4 refine yj ?_
 refine yj ?_ (hs := by exact yo rfl);iterate 2 refine yj ?_
 refine zj (zeN m k l (by omega) (by omega) (by omega)) ?_;iterate 5 refine yj ?_
 refine yR ?_;apply Ex.nil;apply yd;apply yb;refine yh ?_;refine yk rfl ?_ ?_<;>intro hc2
 ·exact absurd h0 hc2
 apply yf;apply yd;refine X.drawQ [⟨0, 45, .ptr 2000000 0 0 0, []⟩, ⟨1, 46, .ptr 2000000 0 0 0, []⟩, ⟨2, 47, .ptr 2000000 0 0 0, [1]⟩, ⟨3, 48, .ptr 2000000 0 0 (0 + 0), [1, 2]⟩, ⟨4, 49, mnA m, [1, 2, 3]⟩, ⟨5, 50, iv k, []⟩, ⟨6, 51, .ptr 2000000 0 0 0, []⟩, ⟨7, 52, .ptr 2000000 0 0 0, [6]⟩, ⟨8, 53, .ptr 2000000 0 0 (0 + 5), [6, 7]⟩, ⟨9, 54, itsA l, [6, 7, 8]⟩, ⟨10, 55, yg (cuV m k l), []⟩, ⟨12, 44, .tup [itsA (apV m k l (cuV m k l)), iv (apE m k l (cuV m k l))], [6, 1, 7, 2, 8, 3, 10, 9, 5, 4, 11]⟩, ⟨13, 57, itsA (apV m k l (cuV m k l)), [6, 1, 7, 2, 8, 3, 10, 9, 5, 4, 11, 12]⟩, ⟨14, 58, iv (apE m k l (cuV m k l)), [6, 1, 7, 2, 8, 3, 10, 9, 5, 4, 11, 12]⟩, ⟨15, 59, .ptr 2000000 0 0 0, [13, 12, 11, 10, 9, 8, 7, 6, 5, 4, 3, 2, 1, 0]⟩, ⟨16, 60, .ptr 2000000 0 0 (0 + 5), [13, 12, 11, 10, 9, 8, 7, 6, 5, 4, 3, 2, 1, 0, 15]⟩] [(11, [6, 1, 7, 2, 8, 3, 10, 9, 5, 4]), (17, [15, 12, 10, 9, 8, 7, 6, 5, 4, 3, 2, 1, 0, 11, 13, 16]), (18, [16, 15, 13, 12, 11, 10, 9, 8, 7, 6, 5, 4, 3, 2, 1, 0, 17, 14])] (fun j => match j with | 0 => ⟨[(0, .ptr 2000000 0 0 0), (3, iv k), (4, yg (cuV m k l))], [(1000001, .hold vs [.ptr 2000000 0 0 0]), (2000000, .box [iv m.Max, iv m.Mod, iv m.Tem, iv m.Pro, yg r, itsA l, .own 2000001] 117), (2000001, .row intE (C) 3 1)]⟩ | 1 => ⟨[(0, .ptr 2000000 0 0 0), (3, iv k), (4, yg (cuV m k l)), (56, .tup [itsA (apV m k l (cuV m k l)), iv (apE m k l (cuV m k l))])], [(1000001, .hold vs [.ptr 2000000 0 0 0]), (2000000, .box [iv m.Max, iv m.Mod, iv m.Tem, iv m.Pro, yg r, itsA l, .own 2000001] 117), (2000001, .row intE (C) 3 1)]⟩ | 2 => ⟨[(0, .ptr 2000000 0 0 0), (3, iv k), (4, yg (cuV m k l)), (56, .tup [itsA (apV m k l (cuV m k l)), iv (apE m k l (cuV m k l))])], [(1000001, .hold vs [.ptr 2000000 0 0 0]), (2000000, .box [iv m.Max, iv m.Mod, iv m.Tem, iv m.Pro, yg r, itsA (apV m k l (cuV m k l)), .own 2000001] 117), (2000001, .row intE (C) 3 1)]⟩ | _ => ⟨[(0, .ptr 2000000 0 0 0), (3, iv k), (4, yg (cuV m k l)), (56, .tup [itsA (apV m k l (cuV m k l)), iv (apE m k l (cuV m k l))]), (5, iv (apE m k l (cuV m k l)))], [(1000001, .hold vs [.ptr 2000000 0 0 0]), (2000000, .box [iv m.Max, iv m.Mod, iv m.Tem, iv m.Pro, yg r, itsA (apV m k l (cuV m k l)), .own 2000001] 117), (2000001, .row intE (C) 3 1)]⟩) mo (by kernel_rfl) (zE (yl)) (fun j hj => ?_) (fun j c hc β hβ => ?_) ?_
 ·rcases j with _ | _ | _ | _ | j
  ·exact yS
  ·exact yS
  ·exact yS
  ·exact yS
  ·exact absurd (show j + 4 <= 3 from hj) (by omega)
 ·rcases j with _ | _ | _ | j
  ·obtain rfl : (11, [6, 1, 7, 2, 8, 3, 10, 9, 5, 4]) = c := by injection hc
   refine yw rfl (yG (st0 := ⟨[(45, .ifb (β 0) (.ptr 2000000 0 0 0)), (46, .ptr 2000000 0 0 0), (47, .ptr 2000000 0 0 0), (48, .ptr 2000000 0 0 (0 + 0)), (49, mnA m), (50, iv k), (51, .ptr 2000000 0 0 0), (52, .ptr 2000000 0 0 0), (53, .ptr 2000000 0 0 (0 + 5)), (54, itsA l), (55, yg (cuV m k l)), (44, .ifb (β 12) (.tup [itsA (apV m k l (cuV m k l)), iv (apE m k l (cuV m k l))])), (57, .ifb (β 13) (itsA (apV m k l (cuV m k l)))), (58, .ifb (β 14) (iv (apE m k l (cuV m k l)))), (59, .ifb (β 15) (.ptr 2000000 0 0 0)), (60, .ifb (β 16) (.ptr 2000000 0 0 (0 + 5))), (0, .ptr 2000000 0 0 0), (3, iv k), (4, yg (cuV m k l))], [(1000001, .hold vs [.ptr 2000000 0 0 0]), (2000000, .box [iv m.Max, iv m.Mod, iv m.Tem, iv m.Pro, yg r, itsA l, .own 2000001] 117), (2000001, .row intE (C) 3 1)]⟩) (yE) ?_);refine yq (yD (zax rfl rfl rfl (LeL.refl _) (zhT m k l (cuV m k l) (by omega) (by omega) (by omega) (by omega))) rfl rfl) (yE)
  ·obtain rfl : (17, [15, 12, 10, 9, 8, 7, 6, 5, 4, 3, 2, 1, 0, 11, 13, 16]) = c := by injection hc
   refine yw rfl (yG (st0 := ⟨[(45, .ptr 2000000 0 0 0), (46, .ptr 2000000 0 0 0), (47, .ptr 2000000 0 0 0), (48, .ptr 2000000 0 0 (0 + 0)), (49, mnA m), (50, iv k), (51, .ptr 2000000 0 0 0), (52, .ptr 2000000 0 0 0), (53, .ptr 2000000 0 0 (0 + 5)), (54, itsA l), (55, yg (cuV m k l)), (44, .tup [itsA (apV m k l (cuV m k l)), iv (apE m k l (cuV m k l))]), (57, itsA (apV m k l (cuV m k l))), (58, .ifb (β 14) (iv (apE m k l (cuV m k l)))), (59, .ptr 2000000 0 0 0), (60, .ptr 2000000 0 0 (0 + 5)), (0, .ptr 2000000 0 0 0), (3, iv k), (4, yg (cuV m k l)), (56, .tup [itsA (apV m k l (cuV m k l)), iv (apE m k l (cuV m k l))])], [(1000001, .hold vs [.ptr 2000000 0 0 0]), (2000000, .box [iv m.Max, iv m.Mod, iv m.Tem, iv m.Pro, yg r, itsA l, .own 2000001] 117), (2000001, .row intE (C) 3 1)]⟩) (yE) ?_);refine yq (zam rfl rfl rfl rfl TyK.h (by simp)) (yE)
  ·obtain rfl : (18, [16, 15, 13, 12, 11, 10, 9, 8, 7, 6, 5, 4, 3, 2, 1, 0, 17, 14]) = c := by injection hc
   refine yw rfl (yG (st0 := ⟨[(45, .ptr 2000000 0 0 0), (46, .ptr 2000000 0 0 0), (47, .ptr 2000000 0 0 0), (48, .ptr 2000000 0 0 (0 + 0)), (49, mnA m), (50, iv k), (51, .ptr 2000000 0 0 0), (52, .ptr 2000000 0 0 0), (53, .ptr 2000000 0 0 (0 + 5)), (54, itsA l), (55, yg (cuV m k l)), (44, .tup [itsA (apV m k l (cuV m k l)), iv (apE m k l (cuV m k l))]), (57, itsA (apV m k l (cuV m k l))), (58, iv (apE m k l (cuV m k l))), (59, .ptr 2000000 0 0 0), (60, .ptr 2000000 0 0 (0 + 5)), (0, .ptr 2000000 0 0 0), (3, iv k), (4, yg (cuV m k l)), (56, .tup [itsA (apV m k l (cuV m k l)), iv (apE m k l (cuV m k l))])], [(1000001, .hold vs [.ptr 2000000 0 0 0]), (2000000, .box [iv m.Max, iv m.Mod, iv m.Tem, iv m.Pro, yg r, itsA (apV m k l (cuV m k l)), .own 2000001] 117), (2000001, .row intE (C) 3 1)]⟩) (yE) ?_);refine yq (yD (Pur.stepA yQ) rfl rfl) (yE)
  ·exact absurd hc (by simp)
 apply yd;apply yb;refine yh ?_;refine yk rfl ?_ ?_<;>intro hc3
 ·exact absurd hap hc3
 apply yf;apply yb;iterate 2 refine ya ?_
 refine ya ?_ (hs := by exact yo rfl);iterate 3 refine ya ?_
 refine yi ?_;refine ya ?_ (hs := by exact yo rfl);refine ya ?_;refine yi ?_;apply yn;refine ye ?_;refine X.ret ?_;refine zcC (Imp.mv 2000001 2000012 rfl rfl) ?_;refine zlC.mk [(2, .fn 73 [])] [] (.inr rfl) (.one (.tmp rfl (LeV.eq ?_)));all_goals (rfl)
end Go.Rse
namespace Go.Rse
open Go Go.Proofs
attribute [local irreducible] Pur yK yM Ex X Fn Imp LeV LeB FnO It yW FnW FnOW FnP
theorem zfP (A : List Int) (B : List Ite) : FnD Tryz.prog 71 [.ptr 2000004 0 0 0, .ptr 2000005 0 0 0, .ptr 2000006 0 0 0] [(2000004, .box [yg A] 27), (2000005, .box [itsA B] 24), (2000006, .box [iv 0] 28)] [2000004, 2000005, 2000006] (.returning) (.returning) [(2000004, .box [yg A] 27), (2000005, .box [itsA B] 24), (2000006, .box [iv 0] 28)] := by
 refine FnD.intro (ts := [(0, .ptr 2000004 0 0 0), (1, .ptr 2000005 0 0 0), (2, .ptr 2000006 0 0 0)]) (n := 19) (cs := [.ptr 2000004 0 0 0, .ptr 2000005 0 0 0, .ptr 2000006 0 0 0]) (by kernel_rfl) Tryz.func71 rfl Tryz.ntmps71 rfl (by simp) rfl (by simp) rfl rfl rfl (fun g w d vs => ?_);refine XS.seq ?_;refine XS.recover rfl rfl (v := .nilIface) (.inl ⟨rfl, rfl, rfl⟩) ?_;refine zpY ?_;apply yb;refine ya ?_;refine ya (hs := by exact zho ⟨_, Tryz.underlying20⟩ rfl) ?_;apply Ex.nil;refine yk rfl ?_ ?_<;>intro hc1
 ·cases hc1
 apply yf;exact ⟨rfl, .inl rfl, [], [], yl⟩
theorem zfQ (e : Int) : FnD Tryz.prog 71 [.ptr 2000004 0 0 0, .ptr 2000005 0 0 0, .ptr 2000006 0 0 0] [(2000004, .box [.nils] 27), (2000005, .box [.nils] 24), (2000006, .box [iv 0] 28)] [2000004, 2000005, 2000006] (.panicking [{ v := ifV 113 .i64 e, recovered := false }]) (.panicking [{ v := ifV 113 .i64 e, recovered := true }]) [(2000004, .box [.nils] 27), (2000005, .box [.nils] 24), (2000006, .box [iv e] 28)] := by
 refine FnD.intro (ts := [(0, .ptr 2000004 0 0 0), (1, .ptr 2000005 0 0 0), (2, .ptr 2000006 0 0 0)]) (n := 19) (cs := [.ptr 2000004 0 0 0, .ptr 2000005 0 0 0, .ptr 2000006 0 0 0]) (by kernel_rfl) Tryz.func71 rfl Tryz.ntmps71 rfl (by simp) rfl (by simp) rfl rfl rfl (fun g w d vs => ?_);refine XS.seq ?_;refine XS.recover rfl rfl (v := ifV 113 .i64 e) (.inr ⟨[], rfl, rfl⟩) ?_;refine zpY ?_;apply yb;refine ya ?_;refine ya (hs := by exact zjX ⟨_, Tryz.underlying20⟩ rfl) ?_;apply Ex.nil;refine yk rfl ?_ ?_<;>intro hc1
 ·apply yb;refine ya ?_;refine ya (hs := by exact zhR rfl ⟨_, Tryz.underlying113⟩) ?_;iterate 3 refine ya ?_
  refine yJ ?_;refine yi ?_;refine ye ?_;apply yd;apply yb;refine yh ?_;refine yk rfl ?_ ?_<;>intro hc2
  ·cases hc2
  apply yf;refine X.drawQ [⟨0, 17, .ptr 4 0 0 (0 + 0), []⟩, ⟨1, 18, iv e, [0]⟩] [(2, []), (3, [2]), (4, [2, 0, 3, 1])] (fun j => match j with | 0 => ⟨[(0, .ptr 2000004 0 0 0), (1, .ptr 2000005 0 0 0), (2, .ptr 2000006 0 0 0), (4, .ptr 4 0 0 0)], [(1000001, .hold vs [.ptr 2000004 0 0 0, .ptr 2000005 0 0 0, .ptr 2000006 0 0 0]), (2000004, .box [.nils] 27), (2000005, .box [.nils] 24), (2000006, .box [iv 0] 28), (4, .box [iv e] 113)]⟩ | 1 => ⟨[(0, .ptr 2000004 0 0 0), (1, .ptr 2000005 0 0 0), (2, .ptr 2000006 0 0 0), (4, .ptr 4 0 0 0)], [(1000001, .hold vs [.ptr 2000004 0 0 0, .ptr 2000005 0 0 0, .ptr 2000006 0 0 0]), (2000004, .box [.nils] 27), (2000005, .box [.nils] 24), (2000006, .box [iv 0] 28), (4, .box [iv e] 113)]⟩ | 2 => ⟨[(0, .ptr 2000004 0 0 0), (1, .ptr 2000005 0 0 0), (2, .ptr 2000006 0 0 0), (4, .ptr 4 0 0 0)], [(1000001, .hold vs [.ptr 2000004 0 0 0, .ptr 2000005 0 0 0, .ptr 2000006 0 0 0]), (2000004, .box [.nils] 27), (2000005, .box [.nils] 24), (2000006, .box [iv 0] 28), (4, .box [iv e] 113)]⟩ | _ => ⟨[(0, .ptr 2000004 0 0 0), (1, .ptr 2000005 0 0 0), (2, .ptr 2000006 0 0 0), (4, .ptr 4 0 0 0)], [(1000001, .hold vs [.ptr 2000004 0 0 0, .ptr 2000005 0 0 0, .ptr 2000006 0 0 0]), (2000004, .box [.nils] 27), (2000005, .box [.nils] 24), (2000006, .box [iv e] 28), (4, .box [iv e] 113)]⟩) mo (by kernel_rfl) (zE (yl)) (fun j hj => ?_) (fun j c hc β hβ => ?_) ?_
  ·rcases j with _ | _ | _ | _ | j
   ·exact yS
   ·exact yS
   ·exact yS
   ·exact yS
   ·exact absurd (show j + 4 <= 3 from hj) (by omega)
  ·rcases j with _ | _ | _ | j
   ·obtain rfl : (2, []) = c := by injection hc
    refine yw rfl (yG (st0 := ⟨[(17, .ifb (β 0) (.ptr 4 0 0 (0 + 0))), (18, .ifb (β 1) (iv e)), (0, .ptr 2000004 0 0 0), (1, .ptr 2000005 0 0 0), (2, .ptr 2000006 0 0 0), (4, .ptr 4 0 0 0)], [(1000001, .hold vs [.ptr 2000004 0 0 0, .ptr 2000005 0 0 0, .ptr 2000006 0 0 0]), (2000004, .box [.nils] 27), (2000005, .box [.nils] 24), (2000006, .box [iv 0] 28), (4, .box [iv e] 113)]⟩) (yE) ?_);refine yq (zam rfl rfl rfl rfl TyK.h (by simp)) (yE)
   ·obtain rfl : (3, [2]) = c := by injection hc
    refine yw rfl (yG (st0 := ⟨[(17, .ifb (β 0) (.ptr 4 0 0 (0 + 0))), (18, .ifb (β 1) (iv e)), (0, .ptr 2000004 0 0 0), (1, .ptr 2000005 0 0 0), (2, .ptr 2000006 0 0 0), (4, .ptr 4 0 0 0)], [(1000001, .hold vs [.ptr 2000004 0 0 0, .ptr 2000005 0 0 0, .ptr 2000006 0 0 0]), (2000004, .box [.nils] 27), (2000005, .box [.nils] 24), (2000006, .box [iv 0] 28), (4, .box [iv e] 113)]⟩) (yE) ?_);refine yq (zam rfl rfl rfl rfl TyK.h (by simp)) (yE)
   ·obtain rfl : (4, [2, 0, 3, 1]) = c := by injection hc
    refine yw rfl (yG (st0 := ⟨[(17, .ptr 4 0 0 (0 + 0)), (18, iv e), (0, .ptr 2000004 0 0 0), (1, .ptr 2000005 0 0 0), (2, .ptr 2000006 0 0 0), (4, .ptr 4 0 0 0)], [(1000001, .hold vs [.ptr 2000004 0 0 0, .ptr 2000005 0 0 0, .ptr 2000006 0 0 0]), (2000004, .box [.nils] 27), (2000005, .box [.nils] 24), (2000006, .box [iv 0] 28), (4, .box [iv e] 113)]⟩) (yE) ?_);refine yq (zam rfl rfl rfl rfl TyK.h (by simp)) (yE)
   ·exact absurd hc (by simp)
  exact ⟨rfl, .inl rfl, [], [], yl⟩
 ·cases hc1
end Go.Rse
namespace Go.Rse
open Go Go.Proofs
attribute [local irreducible] Pur yK yM Ex X Fn Imp LeV LeB FnO It yW FnW FnOW FnP FnD
attribute [local irreducible] cuV cuE apV apE leE leC leI lvN lvF ckM perfL ckIE ckIX
set_option maxHeartbeats 4000000 in
theorem zhW (m : Mn) (l : List Ite) (hl : l.length <= 1000) : Fn Tryz.prog 20 [mnA m, itsA l] (.tup [yg (leC m l), itsA (leI m l), iv (leE m l)]) := by
 have hp4 := zjl m;refine zmk (ts := [(0, mnA m), (1, itsA l)]) (n := 48) (by kernel_rfl) Tryz.func20 rfl Tryz.ntmps20 rfl rfl (by simp) (fun g w d => ?_);refine XW.seq ?_;apply yc;refine yH ?_;iterate 3 refine yJ ?_
 apply Ex.nil;refine XW.seq ?_;apply yc;refine ya ?_;refine yr (zeI m) ?_;iterate 4 refine ya ?_
 refine yi ?_;apply Ex.nil;refine XW.seq ?_;apply yb;refine yh ?_;refine yk rfl ?_ ?_<;>intro hc1
 ·have hZ1 := zrm (l := l) hc1;obtain ⟨hE, hV, hW⟩ := hZ1;apply yd;refine X.drawQ [⟨0, 19, iv (ckM m), []⟩] [(1, []), (2, [1]), (3, [1, 2, 0])] (fun j => match j with | 0 => ⟨[(4, .ptr 4 0 0 0), (5, .ptr 5 0 0 0), (6, .ptr 6 0 0 0)], [(4, .box [.nils] 27), (5, .box [.nils] 24), (6, .box [iv (ckM m)] 28)]⟩ | 1 => ⟨[(4, .ptr 4 0 0 0), (5, .ptr 5 0 0 0), (6, .ptr 6 0 0 0)], [(4, .box [.nils] 27), (5, .box [.nils] 24), (6, .box [iv (ckM m)] 28)]⟩ | 2 => ⟨[(4, .ptr 4 0 0 0), (5, .ptr 5 0 0 0), (6, .ptr 6 0 0 0)], [(4, .box [.nils] 27), (5, .box [.nils] 24), (6, .box [iv (ckM m)] 28)]⟩ | _ => ⟨[(4, .ptr 4 0 0 0), (5, .ptr 5 0 0 0), (6, .ptr 6 0 0 0)], [(4, .box [.nils] 27), (5, .box [.nils] 24), (6, .box [iv (ckM m)] 28)]⟩) mo (by kernel_rfl) (zE (yl)) (fun j hj => ?_) (fun j c hc β hβ => ?_) ?_
  ·rcases j with _ | _ | _ | _ | j
   ·exact yS
   ·exact yS
   ·exact yS
   ·exact yS
   ·exact absurd (show j + 4 <= 3 from hj) (by omega)
  ·rcases j with _ | _ | _ | j
   ·obtain rfl : (1, []) = c := by injection hc
    refine yw rfl (yG (st0 := ⟨[(19, .ifb (β 0) (iv (ckM m))), (4, .ptr 4 0 0 0), (5, .ptr 5 0 0 0), (6, .ptr 6 0 0 0)], [(4, .box [.nils] 27), (5, .box [.nils] 24), (6, .box [iv (ckM m)] 28)]⟩) (yE) ?_);refine yq (zam rfl rfl rfl rfl TyK.h (by simp)) (yE)
   ·obtain rfl : (2, [1]) = c := by injection hc
    refine yw rfl (yG (st0 := ⟨[(19, .ifb (β 0) (iv (ckM m))), (4, .ptr 4 0 0 0), (5, .ptr 5 0 0 0), (6, .ptr 6 0 0 0)], [(4, .box [.nils] 27), (5, .box [.nils] 24), (6, .box [iv (ckM m)] 28)]⟩) (yE) ?_);refine yq (zam rfl rfl rfl rfl TyK.h (by simp)) (yE)
   ·obtain rfl : (3, [1, 2, 0]) = c := by injection hc
    refine yw rfl (yG (st0 := ⟨[(19, iv (ckM m)), (4, .ptr 4 0 0 0), (5, .ptr 5 0 0 0), (6, .ptr 6 0 0 0)], [(4, .box [.nils] 27), (5, .box [.nils] 24), (6, .box [iv (ckM m)] 28)]⟩) (yE) ?_);refine yq (zam rfl rfl rfl rfl TyK.h (by simp)) (yE)
   ·exact absurd hc (by simp)
  refine X.ret ?_;refine znj.plain (rv := [.cell 4 27, .cell 5 24, .cell 6 28]) rfl rfl (RetQ.ret (.many (by decide) (.cons (.cellS rfl rfl rfl TyK.h (by rw [hV]; exact LeV.nils _)) (.cons (.cellS rfl rfl rfl TyK.h (by rw [hW]; exact LeV.nils _)) (.cons (.cellS rfl rfl rfl TyK.h (LeV.eq (by rw [hE]))) .nil)))))
 have hm : ckM m = 0 := by omega
 rw [show (if ckM m = 0 then perfL m else []) = perfL m from if_pos hm, hm];apply yf;refine XW.seq ?_;apply yb;refine ya ?_;refine yr (zeJ l (by omega)) ?_;iterate 5 refine ya ?_
 apply yn;refine yh ?_;refine yk rfl ?_ ?_<;>intro hc2
 ·have hZ2 := zrn hm hc2;obtain ⟨hE, hV, hW⟩ := hZ2;apply yb;refine ya ?_;iterate 3 refine yi ?_
  apply Ex.nil;refine X.ret ?_;refine znj.plain (rv := [.cell 4 27, .cell 5 24, .cell 6 28]) rfl rfl (RetQ.ret (.many (by decide) (.cons (.cellS rfl rfl rfl TyK.h (by rw [hV]; exact LeV.nils _)) (.cons (.cellS rfl rfl rfl TyK.h (by rw [hW]; exact LeV.nils _)) (.cons (.cellS rfl rfl rfl TyK.h (LeV.eq (by rw [hE]))) .nil)))))
 have hi : ckIE l = 0 := by omega
 apply yf;refine XW.defer 9 (fun us => ?_);refine zsr ?_;apply yd;refine X.drawQ [⟨0, 29, mnA m, []⟩, ⟨1, 30, yg (perfL m), []⟩, ⟨2, 31, itsA l, []⟩] [(3, [2]), (4, [2, 3, 1, 0]), (5, [2, 3, 1, 0, 4]), (6, [4, 2, 1, 0, 3, 5])] (fun j => match j with | 0 => ⟨[(1, itsA l), (2, .ptr 2 0 0 0), (7, yg (perfL m)), (4, .ptr 4 0 0 0), (5, .ptr 5 0 0 0), (6, .ptr 6 0 0 0)], [(9, .hold us.toList [.ptr 4 0 0 0, .ptr 5 0 0 0, .ptr 6 0 0 0]), (4, .box [.nils] 27), (5, .box [.nils] 24), (6, .box [iv 0] 28), (2, .box (mnE m) 23)]⟩ | 1 => ⟨[(1, itsA l), (2, .ptr 2 0 0 0), (7, yg (perfL m)), (4, .ptr 4 0 0 0), (5, .ptr 5 0 0 0), (6, .ptr 6 0 0 0), (32, .own 32)], [(9, .hold us.toList [.ptr 4 0 0 0, .ptr 5 0 0 0, .ptr 6 0 0 0]), (4, .box [.nils] 27), (5, .box [.nils] 24), (6, .box [iv 0] 28), (2, .box (mnE m) 23), (32, .row itE l 62 12)]⟩ | 2 => ⟨[(1, itsA l), (2, .ptr 2 0 0 0), (7, yg (perfL m)), (4, .ptr 4 0 0 0), (5, .ptr 5 0 0 0), (6, .ptr 6 0 0 0), (33, .agg [iv m.Max, iv m.Mod, iv m.Tem, iv m.Pro, yg (perfL m), .own 32, .nils])], [(9, .hold us.toList [.ptr 4 0 0 0, .ptr 5 0 0 0, .ptr 6 0 0 0]), (4, .box [.nils] 27), (5, .box [.nils] 24), (6, .box [iv 0] 28), (2, .box (mnE m) 23), (32, .row itE l 62 12)]⟩ | 3 => ⟨[(1, itsA l), (2, .ptr 2 0 0 0), (7, yg (perfL m)), (4, .ptr 4 0 0 0), (5, .ptr 5 0 0 0), (6, .ptr 6 0 0 0), (34, .ptr 34 0 0 0)], [(9, .hold us.toList [.ptr 4 0 0 0, .ptr 5 0 0 0, .ptr 6 0 0 0]), (4, .box [.nils] 27), (5, .box [.nils] 24), (6, .box [iv 0] 28), (2, .box (mnE m) 23), (34, .box [iv m.Max, iv m.Mod, iv m.Tem, iv m.Pro, yg (perfL m), .own 32, .nils] 117), (32, .row itE l 62 12)]⟩ | _ => ⟨[(1, itsA l), (2, .ptr 2 0 0 0), (7, yg (perfL m)), (4, .ptr 4 0 0 0), (5, .ptr 5 0 0 0), (6, .ptr 6 0 0 0), (10, .ptr 34 0 0 0)], [(9, .hold us.toList [.ptr 4 0 0 0, .ptr 5 0 0 0, .ptr 6 0 0 0]), (4, .box [.nils] 27), (5, .box [.nils] 24), (6, .box [iv 0] 28), (2, .box (mnE m) 23), (34, .box [iv m.Max, iv m.Mod, iv m.Tem, iv m.Pro, yg (perfL m), .own 32, .nils] 117), (32, .row itE l 62 12)]⟩) mo (by kernel_rfl) (zE (yl)) (fun j hj => ?_) (fun j c hc β hβ => ?_) ?_
 ·rcases j with _ | _ | _ | _ | _ | j
  ·exact yS
  ·exact yS
  ·exact yS
  ·exact yS
  ·exact yS
  ·exact absurd (show j + 5 <= 4 from hj) (by omega)
 ·rcases j with _ | _ | _ | _ | j
  ·obtain rfl : (3, [2]) = c := by injection hc
   refine yw rfl (yG (st0 := ⟨[(29, .ifb (β 0) (mnA m)), (30, .ifb (β 1) (yg (perfL m))), (31, itsA l), (1, itsA l), (2, .ptr 2 0 0 0), (7, yg (perfL m)), (4, .ptr 4 0 0 0), (5, .ptr 5 0 0 0), (6, .ptr 6 0 0 0)], [(9, .hold us.toList [.ptr 4 0 0 0, .ptr 5 0 0 0, .ptr 6 0 0 0]), (4, .box [.nils] 27), (5, .box [.nils] 24), (6, .box [iv 0] 28), (2, .box (mnE m) 23)]⟩) (yE) ?_);refine yq (zqK [(5, 32)] (zT l (by omega))) (yE)
  ·obtain rfl : (4, [2, 3, 1, 0]) = c := by injection hc
   refine yw rfl (yG (st0 := ⟨[(29, mnA m), (30, yg (perfL m)), (31, itsA l), (1, itsA l), (2, .ptr 2 0 0 0), (7, yg (perfL m)), (4, .ptr 4 0 0 0), (5, .ptr 5 0 0 0), (6, .ptr 6 0 0 0), (32, .own 32)], [(9, .hold us.toList [.ptr 4 0 0 0, .ptr 5 0 0 0, .ptr 6 0 0 0]), (4, .box [.nils] 27), (5, .box [.nils] 24), (6, .box [iv 0] 28), (2, .box (mnE m) 23), (32, .row itE l 62 12)]⟩) (yE) ?_);refine yq (yD (Pur.stepA yQ) rfl rfl) (yE)
  ·obtain rfl : (5, [2, 3, 1, 0, 4]) = c := by injection hc
   refine yw rfl (yG (st0 := ⟨[(29, mnA m), (30, yg (perfL m)), (31, itsA l), (1, itsA l), (2, .ptr 2 0 0 0), (7, yg (perfL m)), (4, .ptr 4 0 0 0), (5, .ptr 5 0 0 0), (6, .ptr 6 0 0 0), (33, .agg [iv m.Max, iv m.Mod, iv m.Tem, iv m.Pro, yg (perfL m), .own 32, .nils])], [(9, .hold us.toList [.ptr 4 0 0 0, .ptr 5 0 0 0, .ptr 6 0 0 0]), (4, .box [.nils] 27), (5, .box [.nils] 24), (6, .box [iv 0] 28), (2, .box (mnE m) 23), (32, .row itE l 62 12)]⟩) (yE) ?_);refine yq (yD (zen (k := 34) rfl rfl) rfl rfl) (yE)
  ·obtain rfl : (6, [4, 2, 1, 0, 3, 5]) = c := by injection hc
   refine yw rfl (yG (st0 := ⟨[(29, mnA m), (30, yg (perfL m)), (31, itsA l), (1, itsA l), (2, .ptr 2 0 0 0), (7, yg (perfL m)), (4, .ptr 4 0 0 0), (5, .ptr 5 0 0 0), (6, .ptr 6 0 0 0), (34, .ptr 34 0 0 0)], [(9, .hold us.toList [.ptr 4 0 0 0, .ptr 5 0 0 0, .ptr 6 0 0 0]), (4, .box [.nils] 27), (5, .box [.nils] 24), (6, .box [iv 0] 28), (2, .box (mnE m) 23), (34, .box [iv m.Max, iv m.Mod, iv m.Tem, iv m.Pro, yg (perfL m), .own 32, .nils] 117), (32, .row itE l 62 12)]⟩) (yE) ?_);refine yq (yD (Pur.stepA yQ) rfl rfl) (yE)
  ·exact absurd hc (by simp)
 iterate 2 apply yd
 refine y3 (st' := ⟨[(4, .ptr 4 0 0 0), (5, .ptr 5 0 0 0), (6, .ptr 6 0 0 0), (10, .ptr 34 0 0 0)], [(9, .hold us.toList [.ptr 4 0 0 0, .ptr 5 0 0 0, .ptr 6 0 0 0]), (4, .box [.nils] 27), (5, .box [.nils] 24), (6, .box [iv 0] 28), (34, .box [iv m.Max, iv m.Mod, iv m.Tem, iv m.Pro, yg (perfL m), itsA l, .own 40] 117), (40, .row intE [] 3 1)]⟩) (((zc7 intE 3 1 34 40 6 117 _ [iv m.Max, iv m.Mod, iv m.Tem, iv m.Pro, yg (perfL m), .own 32, .own 40] rfl rfl rfl rfl).trans (Imp.freeze (k := 32) rfl)).trans yl) ?_;apply yc;refine ye ?_;have hz1 : [] = (lvN m (perfL m) l 0).1 := by unfold lvN; rfl
 have hb0 : ([iv m.Max, iv m.Mod, iv m.Tem, iv m.Pro, yg (perfL m), itsA l, .own 40] : List AV) = [iv m.Max, iv m.Mod, iv m.Tem, iv m.Pro, yg (perfL m), itsA (lvN m (perfL m) l 0).2, .own 40] := by unfold lvN; rfl
 apply X.block;refine zsv (ι := List Int × Nat) (fun p => [(4, .ptr 4 0 0 0), (5, .ptr 5 0 0 0), (6, .ptr 6 0 0 0), (10, .ptr 34 0 0 0), (11, .fn 73 [])]) (fun p => [(9, .hold us.toList [.ptr 4 0 0 0, .ptr 5 0 0 0, .ptr 6 0 0 0]), (4, .box [.nils] 27), (5, .box [.nils] 24), (6, .box [iv 0] 28), (34, .box [iv m.Max, iv m.Mod, iv m.Tem, iv m.Pro, yg p.1, itsA (lvN m (perfL m) l p.2).2, .own 40] 117), (40, .row intE (lvN m (perfL m) l p.2).1 3 1)]) (fun p => (perfL m).drop p.2 = p.1 /\ LvJ m (perfL m) l p.2) (fun p => p.1.length) (perfL m, 0) (fun p => [(4, .ptr 4 0 0 0), (5, .ptr 5 0 0 0), (6, .ptr 6 0 0 0), (10, .ptr 34 0 0 0), (11, .nilf)]) (fun p => [(9, .hold us.toList [.ptr 4 0 0 0, .ptr 5 0 0 0, .ptr 6 0 0 0]), (4, .box [.nils] 27), (5, .box [.nils] 24), (6, .box [iv 0] 28), (34, .box [iv m.Max, iv m.Mod, iv m.Tem, iv m.Pro, yg [], itsA (lvN m (perfL m) l p.2).2, .own 40] 117), (40, .row intE (lvN m (perfL m) l p.2).1 3 1)]) (fun p => p.2 = (perfL m).length /\ LvJ m (perfL m) l p.2) (fun p hk => ?_) (fun p hk => ?_) ⟨rfl, znY _ _ _⟩ yx
 ·obtain ⟨hn, hJ⟩ := hk;have hd := zrp hm hi hJ hn;obtain ⟨hE, hV, hW⟩ := hd;apply yd;apply yb;refine ya ?_;refine ya (hs := by exact zkM ⟨_, _, _, Tryz.underlying119⟩ rfl) ?_;apply Ex.nil;refine yk rfl ?_ ?_<;>intro hc
  ·cases hc
  apply X.exit;apply yd;refine y3 (st' := ⟨[(4, .ptr 4 0 0 0), (5, .ptr 5 0 0 0), (6, .ptr 6 0 0 0), (10, .ptr 34 0 0 0)], [(9, .hold us.toList [.ptr 4 0 0 0, .ptr 5 0 0 0, .ptr 6 0 0 0]), (4, .box [.nils] 27), (5, .box [.nils] 24), (6, .box [iv 0] 28), (34, .box [iv m.Max, iv m.Mod, iv m.Tem, iv m.Pro, yg [], itsA (lvN m (perfL m) l p.2).2, yg (lvN m (perfL m) l p.2).1] 117)]⟩) ((Imp.freeze (k := 40) rfl).trans yl) ?_;refine X.drawQ [⟨0, 40, .ptr 34 0 0 0, []⟩, ⟨1, 41, .ptr 34 0 0 0, [0]⟩, ⟨2, 42, .ptr 34 0 0 (0 + 6), [0, 1]⟩, ⟨3, 43, yg (lvN m (perfL m) l p.2).1, [0, 1, 2]⟩, ⟨4, 44, .ptr 34 0 0 0, []⟩, ⟨5, 45, .ptr 34 0 0 0, [4]⟩, ⟨6, 46, .ptr 34 0 0 (0 + 5), [4, 5]⟩, ⟨7, 47, itsA (lvN m (perfL m) l p.2).2, [4, 5, 6]⟩] [(8, [2, 1, 0, 3]), (9, [6, 5, 4, 3, 2, 1, 0, 8, 7]), (10, [8, 7, 6, 5, 4, 3, 2, 1, 0, 9])] (fun j => match j with | 0 => ⟨[(4, .ptr 4 0 0 0), (5, .ptr 5 0 0 0), (6, .ptr 6 0 0 0), (10, .ptr 34 0 0 0)], [(9, .hold us.toList [.ptr 4 0 0 0, .ptr 5 0 0 0, .ptr 6 0 0 0]), (4, .box [.nils] 27), (5, .box [.nils] 24), (6, .box [iv 0] 28), (34, .box [iv m.Max, iv m.Mod, iv m.Tem, iv m.Pro, yg [], itsA (lvN m (perfL m) l p.2).2, yg (lvN m (perfL m) l p.2).1] 117)]⟩ | 1 => ⟨[(4, .ptr 4 0 0 0), (5, .ptr 5 0 0 0), (6, .ptr 6 0 0 0), (10, .ptr 34 0 0 0)], [(9, .hold us.toList [.ptr 4 0 0 0, .ptr 5 0 0 0, .ptr 6 0 0 0]), (4, .box [yg (lvN m (perfL m) l p.2).1] 27), (5, .box [.nils] 24), (6, .box [iv 0] 28), (34, .box [iv m.Max, iv m.Mod, iv m.Tem, iv m.Pro, yg [], itsA (lvN m (perfL m) l p.2).2, yg (lvN m (perfL m) l p.2).1] 117)]⟩ | 2 => ⟨[(4, .ptr 4 0 0 0), (5, .ptr 5 0 0 0), (6, .ptr 6 0 0 0), (10, .ptr 34 0 0 0)], [(9, .hold us.toList [.ptr 4 0 0 0, .ptr 5 0 0 0, .ptr 6 0 0 0]), (4, .box [yg (lvN m (perfL m) l p.2).1] 27), (5, .box [itsA (lvN m (perfL m) l p.2).2] 24), (6, .box [iv 0] 28), (34, .box [iv m.Max, iv m.Mod, iv m.Tem, iv m.Pro, yg [], itsA (lvN m (perfL m) l p.2).2, yg (lvN m (perfL m) l p.2).1] 117)]⟩ | _ => ⟨[(4, .ptr 4 0 0 0), (5, .ptr 5 0 0 0), (6, .ptr 6 0 0 0), (10, .ptr 34 0 0 0)], [(9, .hold us.toList [.ptr 4 0 0 0, .ptr 5 0 0 0, .ptr 6 0 0 0]), (4, .box [yg (lvN m (perfL m) l p.2).1] 27), (5, .box [itsA (lvN m (perfL m) l p.2).2] 24), (6, .box [iv 0] 28), (34, .box [iv m.Max, iv m.Mod, iv m.Tem, iv m.Pro, yg [], itsA (lvN m (perfL m) l p.2).2, yg (lvN m (perfL m) l p.2).1] 117)]⟩) mo (by kernel_rfl) (zE (yl)) (fun j hj => ?_) (fun j c hc β hβ => ?_) ?_
  ·rcases j with _ | _ | _ | _ | j
   ·exact yS
   ·exact yS
   ·exact yS
   ·exact yS
   ·exact absurd (show j + 4 <= 3 from hj) (by omega)
  ·rcases j with _ | _ | _ | j
   ·obtain rfl : (8, [2, 1, 0, 3]) = c := by injection hc
    refine yw rfl (yG (st0 := ⟨[(40, .ptr 34 0 0 0), (41, .ptr 34 0 0 0), (42, .ptr 34 0 0 (0 + 6)), (43, yg (lvN m (perfL m) l p.2).1), (44, .ifb (β 4) (.ptr 34 0 0 0)), (45, .ifb (β 5) (.ptr 34 0 0 0)), (46, .ifb (β 6) (.ptr 34 0 0 (0 + 5))), (47, .ifb (β 7) (itsA (lvN m (perfL m) l p.2).2)), (4, .ptr 4 0 0 0), (5, .ptr 5 0 0 0), (6, .ptr 6 0 0 0), (10, .ptr 34 0 0 0)], [(9, .hold us.toList [.ptr 4 0 0 0, .ptr 5 0 0 0, .ptr 6 0 0 0]), (4, .box [.nils] 27), (5, .box [.nils] 24), (6, .box [iv 0] 28), (34, .box [iv m.Max, iv m.Mod, iv m.Tem, iv m.Pro, yg [], itsA (lvN m (perfL m) l p.2).2, yg (lvN m (perfL m) l p.2).1] 117)]⟩) (yE) ?_);refine yq (zam rfl rfl rfl rfl TyK.h (by simp)) (yE)
   ·obtain rfl : (9, [6, 5, 4, 3, 2, 1, 0, 8, 7]) = c := by injection hc
    refine yw rfl (yG (st0 := ⟨[(40, .ptr 34 0 0 0), (41, .ptr 34 0 0 0), (42, .ptr 34 0 0 (0 + 6)), (43, yg (lvN m (perfL m) l p.2).1), (44, .ptr 34 0 0 0), (45, .ptr 34 0 0 0), (46, .ptr 34 0 0 (0 + 5)), (47, itsA (lvN m (perfL m) l p.2).2), (4, .ptr 4 0 0 0), (5, .ptr 5 0 0 0), (6, .ptr 6 0 0 0), (10, .ptr 34 0 0 0)], [(9, .hold us.toList [.ptr 4 0 0 0, .ptr 5 0 0 0, .ptr 6 0 0 0]), (4, .box [yg (lvN m (perfL m) l p.2).1] 27), (5, .box [.nils] 24), (6, .box [iv 0] 28), (34, .box [iv m.Max, iv m.Mod, iv m.Tem, iv m.Pro, yg [], itsA (lvN m (perfL m) l p.2).2, yg (lvN m (perfL m) l p.2).1] 117)]⟩) (yE) ?_);refine yq (zam rfl rfl rfl rfl TyK.h (by simp)) (yE)
   ·obtain rfl : (10, [8, 7, 6, 5, 4, 3, 2, 1, 0, 9]) = c := by injection hc
    refine yw rfl (yG (st0 := ⟨[(40, .ptr 34 0 0 0), (41, .ptr 34 0 0 0), (42, .ptr 34 0 0 (0 + 6)), (43, yg (lvN m (perfL m) l p.2).1), (44, .ptr 34 0 0 0), (45, .ptr 34 0 0 0), (46, .ptr 34 0 0 (0 + 5)), (47, itsA (lvN m (perfL m) l p.2).2), (4, .ptr 4 0 0 0), (5, .ptr 5 0 0 0), (6, .ptr 6 0 0 0), (10, .ptr 34 0 0 0)], [(9, .hold us.toList [.ptr 4 0 0 0, .ptr 5 0 0 0, .ptr 6 0 0 0]), (4, .box [yg (lvN m (perfL m) l p.2).1] 27), (5, .box [itsA (lvN m (perfL m) l p.2).2] 24), (6, .box [iv 0] 28), (34, .box [iv m.Max, iv m.Mod, iv m.Tem, iv m.Pro, yg [], itsA (lvN m (perfL m) l p.2).2, yg (lvN m (perfL m) l p.2).1] 117)]⟩) (yE) ?_);refine yq (zam rfl rfl rfl rfl TyK.h (by simp)) (yE)
   ·exact absurd hc (by simp)
  refine X.ret ?_;refine zeG (kD := 9) (rv := [.cell 4 27, .cell 5 24, .cell 6 28]) [(2000004, 4), (2000005, 5), (2000006, 6)] (zfP (lvN m (perfL m) l p.2).1 (lvN m (perfL m) l p.2).2) (.inl ⟨rfl, rfl⟩) rfl rfl Imp.refl rfl (LeL.refl _) (.many (by decide) (.cons (.cellS rfl rfl rfl TyK.h (LeV.eq (congrArg (fun z => yg z) hV))) (.cons (.cellS rfl rfl rfl TyK.h (LeV.eq (congrArg (fun z => itsA z) hW))) (.cons (.cellS rfl rfl rfl TyK.h (LeV.eq (congrArg (fun z => AV.int .i64 z) hE.symm))) .nil)))) rfl rfl rfl (by repeat' (first | exact True.intro | refine And.intro ⟨_, _, rfl, rfl, LeB.refl _, rfl⟩ ?_)) rfl rfl rfl
 ·obtain ⟨hdr, hJ⟩ := hk;apply yd;apply yb;refine ya ?_;refine ya (hs := by exact zmp ⟨_, _, _, Tryz.underlying119⟩ rfl) ?_;apply Ex.nil;refine yk rfl ?_ ?_<;>intro hc
  ·apply yf;apply X.block;obtain ⟨rs, n⟩ := p;have hlen : (lvN m (perfL m) l n).2.length = l.length := hJ.len;have hcho : (lvN m (perfL m) l n).1.length <= n * (2 * l.length + 2) := hJ.cho;have hle : n <= (perfL m).length := hJ.le;rcases rs with _ | ⟨k, r⟩
   ·apply yc;(iterate 2 refine ya ?_);refine zap [(2000000, 34), (2000001, 40)] (zhG m (lvN m (perfL m) l n).2 (lvN m (perfL m) l n).1) ?_;refine ye ?_
    have hn : n = (perfL m).length := by
     have h1 := congrArg List.length hdr;rw [List.length_drop] at h1;have h2 : (perfL m).length - n = 0 := h1;have h3 : n <= (perfL m).length := hle;omega
    exact Or.inr ⟨([], n), yl, hn, hJ⟩
   ·have hk : (perfL m)[n]? = some k := by
     have h1 := congrArg (fun z => z[0]?) hdr;simpa using h1
    have hdr2 : (perfL m).drop (n + 1) = r := by
     have h1 := congrArg (fun z => z.drop 1) hdr;simpa using h1
    have hkb := znZ hk;have hl2 : (lvN m (perfL m) l n).2.length <= 1000 := by rw [hlen]; exact hl
    have hC2 : (lvN m (perfL m) l n).1.length <= 1000000 := by
     have h1 : n * (2 * l.length + 2) <= 4 * (2 * l.length + 2) := Nat.mul_le_mul_right _ (Nat.le_trans hle hp4);have h2 := Nat.le_trans hcho h1;omega
    by_cases h0 : cuE m k (lvN m (perfL m) l n).2 = 0
    ·have hQ := zjk (m := m) (l := l) hk;obtain ⟨hs1, hs2⟩ := hQ;have hbx : ([iv m.Max, iv m.Mod, iv m.Tem, iv m.Pro, yg r, itsA (apV m k (lvN m (perfL m) l n).2 (cuV m k (lvN m (perfL m) l n).2)), .own 41] : List AV) = [iv m.Max, iv m.Mod, iv m.Tem, iv m.Pro, yg r, itsA (lvN m (perfL m) l (n + 1)).2, .own 41] := by rw [hs2]
     apply yc;(iterate 2 refine ya ?_);refine zap [(2000000, 34), (2000001, 40), (2000012, 41)] (zhV m (lvN m (perfL m) l n).2 (lvN m (perfL m) l n).1 k r hkb hl2 hC2 h0) ?_;refine ye ?_;refine Or.inl ⟨(r, n + 1), (yl (ts := [(4, .ptr 4 0 0 0), (5, .ptr 5 0 0 0), (6, .ptr 6 0 0 0), (10, .ptr 34 0 0 0), (11, .fn 73 [])]) (hs := [(9, .hold us.toList [.ptr 4 0 0 0, .ptr 5 0 0 0, .ptr 6 0 0 0]), (4, .box [.nils] 27), (5, .box [.nils] 24), (6, .box [iv 0] 28), (34, .box [iv m.Max, iv m.Mod, iv m.Tem, iv m.Pro, yg r, itsA (apV m k (lvN m (perfL m) l n).2 (cuV m k (lvN m (perfL m) l n).2)), .own 41] 117), (41, .row intE ((lvN m (perfL m) l n).1 ++ cuV m k (lvN m (perfL m) l n).2) 3 1)])).trans ((yx (ts := [(4, .ptr 4 0 0 0), (5, .ptr 5 0 0 0), (6, .ptr 6 0 0 0), (10, .ptr 34 0 0 0), (11, .fn 73 [])]) (hs := [(9, .hold us.toList [.ptr 4 0 0 0, .ptr 5 0 0 0, .ptr 6 0 0 0]), (4, .box [.nils] 27), (5, .box [.nils] 24), (6, .box [iv 0] 28), (34, .box [iv m.Max, iv m.Mod, iv m.Tem, iv m.Pro, yg r, itsA (lvN m (perfL m) l (n + 1)).2, .own 41] 117), (41, .row intE (lvN m (perfL m) l (n + 1)).1 3 1)])).trans ((Imp.mv 41 40 rfl rfl).trans yl)), ⟨hdr2, hJ.s hk h0⟩, by simp⟩
    ·have hd := zro hm hi hJ hk h0;obtain ⟨hE, hV, hW⟩ := hd;apply yc;(iterate 2 refine ya ?_);refine zqH [(2000000, 34), (2000001, 40)] (zgB m (lvN m (perfL m) l n).2 (lvN m (perfL m) l n).1 k r hkb hl2 hC2 h0) ?_;refine zeG (kD := 9) (rv := [.cell 4 27, .cell 5 24, .cell 6 28]) [(2000004, 4), (2000005, 5), (2000006, 6)] (zfQ (cuE m k (lvN m (perfL m) l n).2)) (.inr (.inr ⟨_, rfl, rfl⟩)) rfl rfl Imp.refl rfl (LeL.refl _) (.many (by decide) (.cons (.cellS rfl rfl rfl TyK.h (by rw [hV]; exact LeV.nils _)) (.cons (.cellS rfl rfl rfl TyK.h (by rw [hW]; exact LeV.nils _)) (.cons (.cellS rfl rfl rfl TyK.h (LeV.eq (congrArg (fun z => AV.int .i64 z) hE.symm))) .nil)))) rfl rfl rfl (by repeat' (first | exact True.intro | refine And.intro ⟨_, _, rfl, rfl, LeB.refl _, rfl⟩ ?_)) rfl rfl rfl
  ·cases hc
end Go.Rse
