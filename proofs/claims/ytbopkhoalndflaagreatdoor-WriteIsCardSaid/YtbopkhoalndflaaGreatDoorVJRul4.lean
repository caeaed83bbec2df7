/-
  Walks.
-/
import Derived.Test.YtbopkhoalndflaaGreatDoorVJRul2
set_option linter.all false
namespace Go.Rse
open Go Go.Proofs Go.Proofs.Tryz
section
attribute [local irreducible] Pur yu yq Ex X Fn Imp LeV LeB FnO It yD FnW FnOW FnP
attribute [local irreducible] cuV cuE apV apE leE leC leI lvN lvF ckM perfL ckIE ckIX
def zil (m : Mn) (l : List Ite) (C : List Int) : FnO prog 194 [.ptr 2000000 0 0 0] [(2000000, .box [iv m.Max, iv m.Mod, iv m.Tem, iv m.Pro, yc [], itsA l, .own 2000001] 239), (2000001, .row intE (C) 3 1)] [2000000, 2000001] (.nilf) [(2000000, .box [iv m.Max, iv m.Mod, iv m.Tem, iv m.Pro, yc [], itsA l, .own 2000001] 239), (2000001, .row intE (C) 3 1)] := by
 refine kI (ts := [(0, .ptr 2000000 0 0 0)]) (rv := [.tmp 2]) (n := 75) (cs := [.ptr 2000000 0 0 0, .own 2000001]) (by kernel_rfl) func194 rfl ntmps194 rfl rfl (by simp) rfl rfl rfl rfl (fun g w d vs => ?_);apply ye;refine yh ?_;apply yg;apply ye;refine ya ?_;refine ya ?_ (hs := by exact yf rfl);refine gd ?_ ?_<;>intro Z
 ·apply ye;refine yh ?_;refine xU ?_;refine zka.mk [(2, .nilf)] [] (.inr rfl) (.one (.tmp rfl (xR ?_)));all_goals rfl
 exact absurd rfl Z
def zhz (m : Mn) (l : List Ite) (C : List Int) (k : Int) (r : List Int) (T : 1 <= k /\ k <= 4) (hl : l.length <= 1000) (I : C.length <= 1000000) (h0 : ¬ cuE m k l = 0) : FnP prog 194 [.ptr 2000000 0 0 0] [(2000000, .box [iv m.Max, iv m.Mod, iv m.Tem, iv m.Pro, yc (k :: r), itsA l, .own 2000001] 239), (2000001, .row intE (C) 3 1)] [2000000, 2000001] (ifV 234 .i64 (cuE m k l)) [(2000000, .box [iv m.Max, iv m.Mod, iv m.Tem, iv m.Pro, yc r, itsA l, .own 2000001] 239), (2000001, .row intE (C) 3 1)] := by
 have N : (k :: r)[(0 : Int).toNat]? = some k := rfl;have U := T.1;have J := zhM (m := m) (k := k) (l := l);refine FnP.intro (ts := [(0, .ptr 2000000 0 0 0)]) (n := 75) (cs := [.ptr 2000000 0 0 0, .own 2000001]) (by kernel_rfl) func194 rfl ntmps194 rfl (by simp) rfl rfl rfl rfl (fun g w d vs => ?_);apply ye;refine yh ?_;apply yg;apply ye;refine ya ?_;refine ya ?_ (hs := by exact yf rfl);refine gd ?_ ?_<;>intro Z
 ·exact absurd Z (by simp; omega)
 apply yl;apply ye;refine ya ?_;refine ya ?_ (hs := by exact yf rfl);iterate 5 refine ya ?_
 apply yE;iterate 2 refine ya ?_
 refine ya ?_ (hs := by exact yf rfl);refine gq ?_
 first
  | refine zY (zO rfl rfl rfl sl46 ty3 (by omega) (by omega)) rfl ?_
  | refine zY (zar rfl rfl sl46 ty3 (fun _ => rfl) (by omega) (by omega)) rfl ?_
 refine ya ?_ (hs := by exact yf rfl);refine gq ?_;refine yW [4,5,26,27,28,29,30,31,32,33,34,35,36,37,38] [0,1,3,7,0,0,32,96,224,511,1023,2047,2047,4095,16383] mo ?_;refine yb ?_;refine yb ?_ (hs := by exact yf rfl);iterate 4 refine yb ?_
 refine yb ?_ (hs := by exact yf rfl);iterate 2 refine yb ?_
 refine yH (zfn m k l (by omega) (by omega) (by omega)) ?_;iterate 5 refine yb ?_
 refine yA ?_;refine gd ?_ ?_<;>intro V
 ·(refine yi ?_; refine ya ?_; refine ya ?_; refine ya (hs := by exact zk8 rfl ⟨_, Tryz.underlying234⟩) ?_; refine Ex.panic ?_; exact zui.mk)
 exact absurd V h0
set_option maxHeartbeats 2000000 in
def zjl (m : Mn) (l : List Ite) (C : List Int) (k : Int) (r : List Int) (I : 1 <= k /\ k <= 4) (hl : l.length <= 1000) (hC : C.length <= 1000000) (h0 : cuE m k l = 0) : FnO prog 194 [.ptr 2000000 0 0 0] [(2000000, .box [iv m.Max, iv m.Mod, iv m.Tem, iv m.Pro, yc (k :: r), itsA l, .own 2000001] 239), (2000001, .row intE (C) 3 1)] [2000000] (.fn 194 []) [(2000000, .box [iv m.Max, iv m.Mod, iv m.Tem, iv m.Pro, yc r, itsA (apV m k l (cuV m k l)), .own 2000012] 239), (2000012, .row intE (C ++ (cuV m k l)) 3 1)] := by
 have H : (k :: r)[(0 : Int).toNat]? = some k := rfl;have J := I.1;have G := zhM (m := m) (k := k) (l := l);have V := zlx h0;refine kI (ts := [(0, .ptr 2000000 0 0 0)]) (rv := [.tmp 2]) (n := 75) (cs := [.ptr 2000000 0 0 0]) (by kernel_rfl) func194 rfl ntmps194 rfl rfl (by simp) rfl rfl rfl rfl (fun g w d vs => ?_);apply ye;refine yh ?_;apply yg;apply ye;refine ya ?_;refine ya ?_ (hs := by exact yf rfl);refine gd ?_ ?_<;>intro U
 ·exact absurd U (by simp; omega)
 apply yl;apply ye;refine ya ?_;refine ya ?_ (hs := by exact yf rfl);iterate 5 refine ya ?_
 apply yE;iterate 2 refine ya ?_
 refine ya ?_ (hs := by exact yf rfl);refine gq ?_
 first
  | refine zY (zO rfl rfl rfl sl46 ty3 (by omega) (by omega)) rfl ?_
  | refine zY (zar rfl rfl sl46 ty3 (fun _ => rfl) (by omega) (by omega)) rfl ?_
 refine ya ?_ (hs := by exact yf rfl);refine gq ?_;refine yW [4,5,26,27,28,29,30,31,32,33,34,35,36,37,38] [0,1,3,7,0,0,32,96,224,511,1023,2047,2047,4095,16383] mo ?_;refine yb ?_;refine yb ?_ (hs := by exact yf rfl);iterate 4 refine yb ?_
 refine yb ?_ (hs := by exact yf rfl);iterate 2 refine yb ?_
 refine yH (zfn m k l (by omega) (by omega) (by omega)) ?_;iterate 5 refine yb ?_
 refine yA ?_;refine gd ?_ ?_<;>intro T
 ·exact absurd h0 T
 refine gq ?_;refine kP [⟨0, 45, .ptr 2000000 0 0 0, []⟩, ⟨1, 46, .ptr 2000000 0 0 0, []⟩, ⟨2, 47, .ptr 2000000 0 0 0, [1]⟩, ⟨3, 48, .ptr 2000000 0 0 (0 + 0), [1, 2]⟩, ⟨4, 49, mnA m, [1, 2, 3]⟩, ⟨5, 50, iv k, []⟩, ⟨6, 51, .ptr 2000000 0 0 0, []⟩, ⟨7, 52, .ptr 2000000 0 0 0, [6]⟩, ⟨8, 53, .ptr 2000000 0 0 (0 + 5), [6, 7]⟩, ⟨9, 54, itsA l, [6, 7, 8]⟩, ⟨10, 55, yc (cuV m k l), []⟩, ⟨12, 44, .tup [itsA (apV m k l (cuV m k l)), iv (apE m k l (cuV m k l))], [6, 1, 7, 2, 8, 3, 10, 9, 5, 4, 11]⟩, ⟨13, 57, itsA (apV m k l (cuV m k l)), [6, 1, 7, 2, 8, 3, 10, 9, 5, 4, 11, 12]⟩, ⟨14, 58, iv (apE m k l (cuV m k l)), [6, 1, 7, 2, 8, 3, 10, 9, 5, 4, 11, 12]⟩, ⟨15, 59, .ptr 2000000 0 0 0, [13, 12, 11, 10, 9, 8, 7, 6, 5, 4, 3, 2, 1, 0]⟩, ⟨16, 60, .ptr 2000000 0 0 (0 + 5), [13, 12, 11, 10, 9, 8, 7, 6, 5, 4, 3, 2, 1, 0, 15]⟩] [(11, [6, 1, 7, 2, 8, 3, 10, 9, 5, 4]), (17, [15, 12, 10, 9, 8, 7, 6, 5, 4, 3, 2, 1, 0, 11, 13, 16]), (18, [16, 15, 13, 12, 11, 10, 9, 8, 7, 6, 5, 4, 3, 2, 1, 0, 17, 14])] (fun j => match j with | 0 => ⟨[(0, .ptr 2000000 0 0 0), (3, iv k), (4, yc (cuV m k l))], [(1000001, .hold vs [.ptr 2000000 0 0 0]), (2000000, .box [iv m.Max, iv m.Mod, iv m.Tem, iv m.Pro, yc r, itsA l, .own 2000001] 239), (2000001, .row intE (C) 3 1)]⟩ | 1 => ⟨[(0, .ptr 2000000 0 0 0), (3, iv k), (4, yc (cuV m k l)), (56, .tup [itsA (apV m k l (cuV m k l)), iv (apE m k l (cuV m k l))])], [(1000001, .hold vs [.ptr 2000000 0 0 0]), (2000000, .box [iv m.Max, iv m.Mod, iv m.Tem, iv m.Pro, yc r, itsA l, .own 2000001] 239), (2000001, .row intE (C) 3 1)]⟩ | 2 => ⟨[(0, .ptr 2000000 0 0 0), (3, iv k), (4, yc (cuV m k l)), (56, .tup [itsA (apV m k l (cuV m k l)), iv (apE m k l (cuV m k l))])], [(1000001, .hold vs [.ptr 2000000 0 0 0]), (2000000, .box [iv m.Max, iv m.Mod, iv m.Tem, iv m.Pro, yc r, itsA (apV m k l (cuV m k l)), .own 2000001] 239), (2000001, .row intE (C) 3 1)]⟩ | _ => ⟨[(0, .ptr 2000000 0 0 0), (3, iv k), (4, yc (cuV m k l)), (56, .tup [itsA (apV m k l (cuV m k l)), iv (apE m k l (cuV m k l))]), (5, iv (apE m k l (cuV m k l)))], [(1000001, .hold vs [.ptr 2000000 0 0 0]), (2000000, .box [iv m.Max, iv m.Mod, iv m.Tem, iv m.Pro, yc r, itsA (apV m k l (cuV m k l)), .own 2000001] 239), (2000001, .row intE (C) 3 1)]⟩) mo (by kernel_rfl) (zl (yd)) (fun j E => ?_) (fun j c Z β hβ => ?_) ?_
 ·rcases j with _ | _ | _ | _ | j
  ·exact yC
  ·exact yC
  ·exact yC
  ·exact yC
  ·exact absurd (show j + 4 <= 3 from E) (by omega)
 ·rcases j with _ | _ | _ | j
  ·obtain rfl : (11, [6, 1, 7, 2, 8, 3, 10, 9, 5, 4]) = c := by injection Z
   refine yQ rfl (yV (st0 := ⟨[(45, .ifb (β 0) (.ptr 2000000 0 0 0)), (46, .ptr 2000000 0 0 0), (47, .ptr 2000000 0 0 0), (48, .ptr 2000000 0 0 (0 + 0)), (49, mnA m), (50, iv k), (51, .ptr 2000000 0 0 0), (52, .ptr 2000000 0 0 0), (53, .ptr 2000000 0 0 (0 + 5)), (54, itsA l), (55, yc (cuV m k l)), (44, .ifb (β 12) (.tup [itsA (apV m k l (cuV m k l)), iv (apE m k l (cuV m k l))])), (57, .ifb (β 13) (itsA (apV m k l (cuV m k l)))), (58, .ifb (β 14) (iv (apE m k l (cuV m k l)))), (59, .ifb (β 15) (.ptr 2000000 0 0 0)), (60, .ifb (β 16) (.ptr 2000000 0 0 (0 + 5))), (0, .ptr 2000000 0 0 0), (3, iv k), (4, yc (cuV m k l))], [(1000001, .hold vs [.ptr 2000000 0 0 0]), (2000000, .box [iv m.Max, iv m.Mod, iv m.Tem, iv m.Pro, yc r, itsA l, .own 2000001] 239), (2000001, .row intE (C) 3 1)]⟩) (yK) ?_);refine yq.imp (yP (zao rfl rfl rfl (kE _) (zjg m k l (cuV m k l) (by omega) (by omega) (by omega) (by omega))) rfl rfl) (yK)
  ·obtain rfl : (17, [15, 12, 10, 9, 8, 7, 6, 5, 4, 3, 2, 1, 0, 11, 13, 16]) = c := by injection Z
   refine yQ rfl (yV (st0 := ⟨[(45, .ptr 2000000 0 0 0), (46, .ptr 2000000 0 0 0), (47, .ptr 2000000 0 0 0), (48, .ptr 2000000 0 0 (0 + 0)), (49, mnA m), (50, iv k), (51, .ptr 2000000 0 0 0), (52, .ptr 2000000 0 0 0), (53, .ptr 2000000 0 0 (0 + 5)), (54, itsA l), (55, yc (cuV m k l)), (44, .tup [itsA (apV m k l (cuV m k l)), iv (apE m k l (cuV m k l))]), (57, itsA (apV m k l (cuV m k l))), (58, .ifb (β 14) (iv (apE m k l (cuV m k l)))), (59, .ptr 2000000 0 0 0), (60, .ptr 2000000 0 0 (0 + 5)), (0, .ptr 2000000 0 0 0), (3, iv k), (4, yc (cuV m k l)), (56, .tup [itsA (apV m k l (cuV m k l)), iv (apE m k l (cuV m k l))])], [(1000001, .hold vs [.ptr 2000000 0 0 0]), (2000000, .box [iv m.Max, iv m.Mod, iv m.Tem, iv m.Pro, yc r, itsA l, .own 2000001] 239), (2000001, .row intE (C) 3 1)]⟩) (yK) ?_);refine yq.imp (zal rfl rfl rfl rfl TyK.h (by simp)) (yK)
  ·obtain rfl : (18, [16, 15, 13, 12, 11, 10, 9, 8, 7, 6, 5, 4, 3, 2, 1, 0, 17, 14]) = c := by injection Z
   refine yQ rfl (yV (st0 := ⟨[(45, .ptr 2000000 0 0 0), (46, .ptr 2000000 0 0 0), (47, .ptr 2000000 0 0 0), (48, .ptr 2000000 0 0 (0 + 0)), (49, mnA m), (50, iv k), (51, .ptr 2000000 0 0 0), (52, .ptr 2000000 0 0 0), (53, .ptr 2000000 0 0 (0 + 5)), (54, itsA l), (55, yc (cuV m k l)), (44, .tup [itsA (apV m k l (cuV m k l)), iv (apE m k l (cuV m k l))]), (57, itsA (apV m k l (cuV m k l))), (58, iv (apE m k l (cuV m k l))), (59, .ptr 2000000 0 0 0), (60, .ptr 2000000 0 0 (0 + 5)), (0, .ptr 2000000 0 0 0), (3, iv k), (4, yc (cuV m k l)), (56, .tup [itsA (apV m k l (cuV m k l)), iv (apE m k l (cuV m k l))])], [(1000001, .hold vs [.ptr 2000000 0 0 0]), (2000000, .box [iv m.Max, iv m.Mod, iv m.Tem, iv m.Pro, yc r, itsA (apV m k l (cuV m k l)), .own 2000001] 239), (2000001, .row intE (C) 3 1)]⟩) (yK) ?_);refine yq.imp (yP (xO yG) rfl rfl) (yK)
  ·exact absurd Z (by simp)
 refine gd ?_ ?_<;>intro N
 ·exact absurd V N
 apply yl;apply ye;iterate 2 refine ya ?_
 refine ya ?_ (hs := by exact yf rfl);iterate 3 refine ya ?_
 refine xY ?_;refine ya ?_ (hs := by exact yf rfl);refine ya ?_;refine xY ?_;apply yE;refine yh ?_;refine xU ?_;refine zcZ (kO 2000001 2000012 rfl rfl) ?_;refine zka.mk [(2, .fn 194 [])] [] (.inr rfl) (.one (.tmp rfl (xR ?_)));all_goals rfl
end
section
attribute [local irreducible] Pur yu yq Ex X Fn Imp LeV LeB FnO It yD FnW FnOW FnP
def zgi (A : List Int) (B : List Ite) : FnD prog 192 [.ptr 2000004 0 0 0, .ptr 2000005 0 0 0, .ptr 2000006 0 0 0] [(2000004, .box [yc A] 46), (2000005, .box [itsA B] 177), (2000006, .box [iv 0] 28)] [2000004, 2000005, 2000006] (.returning) (.returning) [(2000004, .box [yc A] 46), (2000005, .box [itsA B] 177), (2000006, .box [iv 0] 28)] := by
 refine FnD.intro (ts := [(0, .ptr 2000004 0 0 0), (1, .ptr 2000005 0 0 0), (2, .ptr 2000006 0 0 0)]) (n := 19) (cs := [.ptr 2000004 0 0 0, .ptr 2000005 0 0 0, .ptr 2000006 0 0 0]) (by kernel_rfl) func192 rfl ntmps192 rfl (by simp) rfl (by simp) rfl rfl rfl (fun g w d vs => ?_);refine XS.seq ?_;refine XS.recover rfl rfl (v := .nilIface) (.inl ⟨rfl, rfl, rfl⟩) ?_;refine XS.of ?_;apply ye;refine ya ?_;refine ya (hs := by exact zi7 ⟨_, Tryz.underlying20⟩ rfl) ?_;refine gd ?_ ?_<;>intro Z
 ·cases Z
 apply yl;exact ⟨rfl, .inl rfl, [], [], yd⟩
set_option maxRecDepth 9999 in
def zgj (e : Int) : FnD prog 192 [.ptr 2000004 0 0 0, .ptr 2000005 0 0 0, .ptr 2000006 0 0 0] [(2000004, .box [.nils] 46), (2000005, .box [.nils] 177), (2000006, .box [iv 0] 28)] [2000004, 2000005, 2000006] (.panicking [{ v := ifV 234 .i64 e, recovered := false }]) (.panicking [{ v := ifV 234 .i64 e, recovered := true }]) [(2000004, .box [.nils] 46), (2000005, .box [.nils] 177), (2000006, .box [iv e] 28)] := by
 refine FnD.intro (ts := [(0, .ptr 2000004 0 0 0), (1, .ptr 2000005 0 0 0), (2, .ptr 2000006 0 0 0)]) (n := 19) (cs := [.ptr 2000004 0 0 0, .ptr 2000005 0 0 0, .ptr 2000006 0 0 0]) (by kernel_rfl) func192 rfl ntmps192 rfl (by simp) rfl (by simp) rfl rfl rfl (fun g w d vs => ?_);refine XS.seq ?_;refine XS.recover rfl rfl (v := ifV 234 .i64 e) (.inr ⟨[], rfl, rfl⟩) ?_;refine XS.of ?_;apply ye;refine ya ?_;refine ya (hs := by exact zl7 ⟨_, Tryz.underlying20⟩ rfl) ?_;refine gd ?_ ?_<;>intro Z
 ·apply ye;refine ya ?_;refine ya (hs := by exact zjt rfl ⟨_, Tryz.underlying234⟩) ?_;refine gd ?_ ?_<;>intro V
  ·cases V
  apply yl;refine X.drawQ [⟨0, 17, .ptr 4 0 0 (0 + 0), []⟩, ⟨1, 18, iv e, [0]⟩] [(2, []), (3, [2]), (4, [2, 0, 3, 1])] (fun j => match j with | 0 => ⟨[(0, .ptr 2000004 0 0 0), (1, .ptr 2000005 0 0 0), (2, .ptr 2000006 0 0 0), (4, .ptr 4 0 0 0)], [(1000001, .hold vs [.ptr 2000004 0 0 0, .ptr 2000005 0 0 0, .ptr 2000006 0 0 0]), (2000004, .box [.nils] 46), (2000005, .box [.nils] 177), (2000006, .box [iv 0] 28), (4, .box [iv e] 234)]⟩ | 1 => ⟨[(0, .ptr 2000004 0 0 0), (1, .ptr 2000005 0 0 0), (2, .ptr 2000006 0 0 0), (4, .ptr 4 0 0 0)], [(1000001, .hold vs [.ptr 2000004 0 0 0, .ptr 2000005 0 0 0, .ptr 2000006 0 0 0]), (2000004, .box [.nils] 46), (2000005, .box [.nils] 177), (2000006, .box [iv 0] 28), (4, .box [iv e] 234)]⟩ | 2 => ⟨[(0, .ptr 2000004 0 0 0), (1, .ptr 2000005 0 0 0), (2, .ptr 2000006 0 0 0), (4, .ptr 4 0 0 0)], [(1000001, .hold vs [.ptr 2000004 0 0 0, .ptr 2000005 0 0 0, .ptr 2000006 0 0 0]), (2000004, .box [.nils] 46), (2000005, .box [.nils] 177), (2000006, .box [iv 0] 28), (4, .box [iv e] 234)]⟩ | _ => ⟨[(0, .ptr 2000004 0 0 0), (1, .ptr 2000005 0 0 0), (2, .ptr 2000006 0 0 0), (4, .ptr 4 0 0 0)], [(1000001, .hold vs [.ptr 2000004 0 0 0, .ptr 2000005 0 0 0, .ptr 2000006 0 0 0]), (2000004, .box [.nils] 46), (2000005, .box [.nils] 177), (2000006, .box [iv e] 28), (4, .box [iv e] 234)]⟩) mo (by kernel_rfl) (zl (yd)) (fun j hj => ?_) (fun j c hc β hβ => ?_) ?_
  ·rcases j with _ | _ | _ | _ | j
   ·exact yC
   ·exact yC
   ·exact yC
   ·exact yC
   ·exact absurd (show j + 4 <= 3 from hj) (by omega)
  ·rcases j with _ | _ | _ | j
   ·obtain rfl : (2, []) = c := by injection hc
    refine yQ rfl (yV (st0 := ⟨[(17, .ifb (β 0) (.ptr 4 0 0 (0 + 0))), (18, .ifb (β 1) (iv e)), (0, .ptr 2000004 0 0 0), (1, .ptr 2000005 0 0 0), (2, .ptr 2000006 0 0 0), (4, .ptr 4 0 0 0)], [(1000001, .hold vs [.ptr 2000004 0 0 0, .ptr 2000005 0 0 0, .ptr 2000006 0 0 0]), (2000004, .box [.nils] 46), (2000005, .box [.nils] 177), (2000006, .box [iv 0] 28), (4, .box [iv e] 234)]⟩) (yK) ?_)
    refine yq.imp (zal rfl rfl rfl rfl TyK.h (by simp)) (yK)
   ·obtain rfl : (3, [2]) = c := by injection hc
    refine yQ rfl (yV (st0 := ⟨[(17, .ifb (β 0) (.ptr 4 0 0 (0 + 0))), (18, .ifb (β 1) (iv e)), (0, .ptr 2000004 0 0 0), (1, .ptr 2000005 0 0 0), (2, .ptr 2000006 0 0 0), (4, .ptr 4 0 0 0)], [(1000001, .hold vs [.ptr 2000004 0 0 0, .ptr 2000005 0 0 0, .ptr 2000006 0 0 0]), (2000004, .box [.nils] 46), (2000005, .box [.nils] 177), (2000006, .box [iv 0] 28), (4, .box [iv e] 234)]⟩) (yK) ?_)
    refine yq.imp (zal rfl rfl rfl rfl TyK.h (by simp)) (yK)
   ·obtain rfl : (4, [2, 0, 3, 1]) = c := by injection hc
    refine yQ rfl (yV (st0 := ⟨[(17, .ptr 4 0 0 (0 + 0)), (18, iv e), (0, .ptr 2000004 0 0 0), (1, .ptr 2000005 0 0 0), (2, .ptr 2000006 0 0 0), (4, .ptr 4 0 0 0)], [(1000001, .hold vs [.ptr 2000004 0 0 0, .ptr 2000005 0 0 0, .ptr 2000006 0 0 0]), (2000004, .box [.nils] 46), (2000005, .box [.nils] 177), (2000006, .box [iv 0] 28), (4, .box [iv e] 234)]⟩) (yK) ?_)
    refine yq.imp (zal rfl rfl rfl rfl TyK.h (by simp)) (yK)
   ·exact absurd hc (by simp)
  exact ⟨rfl, .inl rfl, [], [], yd⟩
 ·cases Z
end
end Go.Rse
namespace Go.Rse
open Go Go.RowKit Go.Proofs.Tryz
section
variable {P : Program} {C : Ctx} {st : St} {ty : TypeId} {Q : Exit -> St -> Prop}
def zoH {T : TypeId} {x : Operand} {yt : TypeId} {f : FuncId} {cs : List AV} (Z : ∃ a b c, P.underlying T = some (.func a b c)) (hx : ev st x = some (.fn f cs)) : Pur P C (.binOp .neq T x (.const .nilFunc) yt) ty st (.bool true) := fun g a w dst pos af gd hr => by
 obtain ⟨us, e, _, _⟩ := zcQ (yr hr hx);have e0 : a.eval (.const .nilFunc) = .nilFunc := rfl;refine ⟨.bool true, ?_, .bool _⟩;obtain ⟨p, q, r, Z⟩ := Z;have V : (eqGuard .neq T x (.const .nilFunc) (.func (.func f) #[] us.toArray) .nilFunc).run P w = .ok () w := by unfold eqGuard; simp
 have U : (Op.equal T (.func (.func f) #[] us.toArray) .nilFunc).run P w = .ok false w := by
  unfold Op.equal;rw [show Op.maxDepth = 9999 + 1 from rfl];unfold Op.equalIn;simp [run_underlying Z]
 simp only [execOp, e, e0, jL, V, jD, binOp, U, jO]; rfl
def zmx {T : TypeId} {x : Operand} {yt : TypeId} (Z : ∃ a b c, P.underlying T = some (.func a b c)) (hx : ev st x = some .nilf) : Pur P C (.binOp .neq T x (.const .nilFunc) yt) ty st (.bool false) := fun g a w dst pos af gd hr => by
 have e := zgE (yr hr hx);have e0 : a.eval (.const .nilFunc) = .nilFunc := rfl;refine ⟨.bool false, ?_, .bool _⟩;obtain ⟨p, q, r, Z⟩ := Z;have V : (eqGuard .neq T x (.const .nilFunc) .nilFunc .nilFunc).run P w = .ok () w := by unfold eqGuard; simp
 have U : (Op.equal T .nilFunc .nilFunc).run P w = .ok true w := by
  unfold Op.equal;rw [show Op.maxDepth = 9999 + 1 from rfl];unfold Op.equalIn;simp [run_underlying Z]
 simp only [execOp, e, e0, jL, V, jD, binOp, U, jO]; rfl
def zxR {ι : Type} {c : Code} (I : ι -> List (Nat × AV)) (H : ι -> List (Nat × Blk)) (J : ι -> Prop) (μ : ι -> Nat) (i0 : ι) (IB : ι -> List (Nat × AV)) (HB : ι -> List (Nat × Blk)) (JB : ι -> Prop)
 (Z : ∀ i, JB i -> X P C c ⟨IB i, HB i⟩ (zdC (fun _ => False) Q))
 (h : ∀ i, J i -> X P C c ⟨I i, H i⟩ (zdC (fun st' => (∃ i', Imp C st' ⟨I i', H i'⟩ /\ J i' /\ μ i' < μ i) \/ (∃ i', Imp C st' ⟨IB i', HB i'⟩ /\ JB i')) Q))
 (hJ : J i0) (h0 : Imp C st ⟨I i0, H i0⟩) : X P C (.loop c) st Q := by
 refine X.loop (fun s : ι ⊕ ι => (⟨Sum.elim I IB s, Sum.elim H HB s⟩ : St)) (Sum.elim J JB) (Sum.elim (fun i => μ i + 1) (fun _ => 0)) (.inl i0) h0 hJ (fun s hs => ?_);cases s with
 | inl i =>
  intro g a w hr;refine wpIn_mono (h i hs g a w hr) ?_
  rintro e a w ⟨st, g, hr, q⟩
  refine ⟨st, g, hr, ?_⟩;cases e
  case normal =>
   rcases q with ⟨i', q1, q2, q3⟩ | ⟨i', q1, q2⟩
   ·exact ⟨.inl i', q1, q2, Nat.succ_lt_succ q3⟩
   ·exact ⟨.inr i', q1, q2, Nat.succ_pos _⟩
  all_goals exact q
 | inr i =>
  intro g a w hr;refine wpIn_mono (Z i hs g a w hr) ?_
  rintro e a w ⟨st, g, hr, q⟩
  refine ⟨st, g, hr, ?_⟩;cases e
  case normal => exact q.elim
  all_goals exact q
end
end Go.Rse
