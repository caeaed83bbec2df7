/-
  Walks.
-/
import Derived.Test.YtbopkhoalndflaaGreatDoorVJLev7
set_option linter.all false
namespace Go.Rse
open Go Go.Proofs Go.Proofs.Tryz
section
attribute [local irreducible] Pur yu yq Ex X Fn Imp LeV LeB FnO It yD
def zgZ (l : List Int) (x : Int) (hl : l.length <= 4000000000) : Fn prog 284 [yc l, iv x] (.bool (decide (x ∈ l))) := by
 refine xV func284 ntmps284 (fun g w d => ?_);apply ye;refine yh ?_;apply yg;apply ye;refine yh ?_;apply xS;refine zX (fun k => [(0, yc l), (1, iv x), (5, iv (k : Int))]) (fun k => []) (fun k => k <= l.length /\ ∀ (i : Nat) u, i < k -> l[i]? = some u -> ¬ u = x) l.length (fun k T => ?_) (hJ := by exact ⟨by omega, fun i u h => absurd h (wN i)⟩) (h0 := yd);obtain ⟨Q, Z⟩ := T;refine gd ?_ ?_<;>intro N
 ·obtain ⟨v, hv⟩ : ∃ v, l[k]? = some v := ⟨_, lgg (by omega)⟩;have J : l[(k : Int).toNat]? = some v := by simpa using hv
  refine gd ?_ ?_<;>intro V
  ·refine gq ?_;all_goals (congr 1; exact (jI (by rw [← V]; exact j6 hv)).symm)
  refine gq ?_
  refine yw (k + 1) (hJ := by
   refine ⟨by omega, fun i u hi U => ?_⟩;rcases jZ.1 hi with h | h
   ·exact Z i u h U
   ·subst h; rw [hv] at U; injection U with U; subst U; exact V)
 ·refine gq ?_;all_goals (congr 1; exact (j9 (zru fun i u hi => Z i u (by omega))).symm)
set_option maxHeartbeats 4000000 in
def zfe (m : Mn) (l : List Sg) (hl : l.length <= 1000) (ch : List Int) (v5 : ch.length <= 4000000) : Fn prog 239 [mnA m, sgsA l, yc ch] (.tup [yc (mkC m l ch), zaQ (mkA m l ch), iv (mkE m l ch)]) := by
 obtain ⟨L0, hX, hM⟩ : ∃ L0, (ckD m l = 0 -> L0 = mnsD m l) /\ Fn prog 283 [mnA m, sgsA l] (.tup [zcX L0, iv (ckD m l)]) := ⟨_, fun h => j4 h, C_tactusref09_Meanings' m l hl⟩;refine xV func239 ntmps239 (fun g w d => ?_);refine gc hM ?_;refine gd ?_ ?_<;>intro Z
 ·have hE : mkE m l ch = ckD m l := by unfold mkE; rw [j3 Z]
  have U : mkC m l ch = [] := by unfold mkC; rw [j3 (by rw [hE]; exact Z)]
  have T : mkA m l ch = [] := by unfold mkA; rw [j3 (by rw [hE]; exact Z)]
  apply ye;refine ya ?_;refine yy ?_;refine xU ?_;refine xQ (yd (ts := [(6, yc []), (7, zaQ []), (8, iv (ckD m l))]) (hs := [])) ?_;refine k7 (.many (by decide) (.cons (.tmp rfl (xR ?_)) (.cons (.tmp rfl (xR ?_)) (.cons (.tmp rfl (xR ?_)) .nil))));all_goals (first | exact zE U | exact zE T | exact zE hE)
 have xT := hX Z;subst xT;have v4 := zgp m l;have J := zh5 Z;have v3 : (mnsD m l).length = (yU l l.length).length := by simp [mnsD]
 refine gd ?_ ?_<;>intro v0
 ·have hE : mkE m l ch = 2 := by unfold mkE; rw [j4 Z, j3 (fun h => by have := h.1; omega)]
  have U : mkC m l ch = [] := by unfold mkC; rw [j3 (by omega)]
  have T : mkA m l ch = [] := by unfold mkA; rw [j3 (by omega)]
  apply ye;refine yy ?_;refine xU ?_;refine xQ (yd (ts := [(6, yc []), (7, zaQ []), (8, iv 2)]) (hs := [])) ?_;refine k7 (.many (by decide) (.cons (.tmp rfl (xR ?_)) (.cons (.tmp rfl (xR ?_)) (.cons (.tmp rfl (xR ?_)) .nil))));all_goals (first | exact zE U | exact zE T | exact zE hE)
 apply yl;apply yg;apply ye;refine yh ?_;apply xS;refine zX (fun k => [(1, sgsA l), (2, yc ch), (9, zcX (mnsD m l)), (11, iv (k : Int))]) (fun k => []) (fun k => k <= (mnsD m l).length /\ ∀ i, i < k -> ∀ x v, (mnsD m l)[i]? = some x -> ch[i]? = some v -> v ∈ x) ((mnsD m l).length) (fun k hk => ?_) (hJ := by exact ⟨by omega, fun i h => absurd h (wN i)⟩) (h0 := yd);obtain ⟨u3, I⟩ := hk;refine gd ?_ ?_<;>intro u2
 ·obtain ⟨x, hx⟩ : ∃ x, (mnsD m l)[k]? = some x := ⟨_, lgg (by omega)⟩;have u1 : (mnsD m l)[(k : Int).toNat]? = some x := by simpa using hx
  obtain ⟨c, Q⟩ : ∃ c, ch[k]? = some c := ⟨_, lgg (by omega)⟩;have v9 : ch[(k : Int).toNat]? = some c := by simpa using Q
  have kZ := zjN (j6 hx);refine gq ?_;refine yW [36,37,38,39,40,41,42,43,44,45] [0,0,3,7,0,0,48,112,255,511] mo ?_;iterate 8 refine yb ?_
  refine yH (zgZ x c (by omega)) ?_;refine yb ?_;refine yA ?_;refine gd ?_ ?_<;>intro H
  ·have hE : mkE m l ch = 2 := by unfold mkE; rw [j4 Z, j3 (fun h => H (zed.1 h.2 k x c hx Q))]
   have U : mkC m l ch = [] := by unfold mkC; rw [j3 (by omega)]
   have T : mkA m l ch = [] := by unfold mkA; rw [j3 (by omega)]
   apply ye;refine yy ?_;refine xU ?_;refine xQ (yd (ts := [(6, yc []), (7, zaQ []), (8, iv 2)]) (hs := [])) ?_;refine k7 (.many (by decide) (.cons (.tmp rfl (xR ?_)) (.cons (.tmp rfl (xR ?_)) (.cons (.tmp rfl (xR ?_)) .nil))));all_goals (first | exact zE U | exact zE T | exact zE hE)
  refine gq ?_
  refine yw (k + 1) (hJ := by
   refine ⟨by omega, fun i hi x1 v1 G E => ?_⟩;rcases jZ.1 hi with h | h
   ·exact I i h x1 v1 G E
   ·subst h; rw [hx] at G; rw [Q] at E; injection G with G; injection E with E; subst G; subst E; exact H)
 ·have hok : chOk ch (mnsD m l) := zed.2 fun i x v hx hv => I i (by have := (j1.1 hx).1; omega) x v hx hv
  have hE : mkE m l ch = 0 := by unfold mkE; rw [j4 Z, j4 ⟨by omega, hok⟩]
  have U : mkC m l ch = (mkK ch l l.length).1 := by unfold mkC; rw [j4 hE]
  have T : mkA m l ch = (mkK ch l l.length).2.1 := by unfold mkA; rw [j4 hE]
  apply k8;apply ye;refine ya ?_;apply yE;refine ya ?_;apply yE;refine yh ?_;iterate 2 apply yg
  refine xZ (yF intE 3 1 12 101 rfl rfl) ?_;refine xZ (yF za6 4 1 13 102 rfl rfl) ?_;apply yi;refine yh ?_;apply xS;refine zq (fun k => [(1, sgsA l), (2, yc ch), (12, .own 101), (13, .own 102), (14, iv ((mkK ch l k).2.2 : Int)), (15, iv (k : Int))]) (fun k => [(101, .row intE (mkK ch l k).1 3 1), (102, .row za6 (mkK ch l k).2.1 4 1)]) l.length (fun k hk => ?_) (h0 := yd);refine gd ?_ ?_<;>intro kY
  ·obtain ⟨s, hs⟩ : ∃ s, l[k]? = some s := ⟨_, lgg (by omega)⟩;have kX : l[(k : Int).toNat]? = some s := by simpa using hs
   obtain ⟨kW, kV, kU⟩ := zhJ ch l k;refine gd ?_ ?_<;>intro V
   ·have N := zf3 (ch := ch) hs V;have x4 : (mkK ch l k).1 ++ [0] = (mkK ch l (k + 1)).1 := by rw [N]
    have x3 : (mkK ch l k).2.1 ++ [false] = (mkK ch l (k + 1)).2.1 := by rw [N]
    have x2 : ((mkK ch l k).2.2 : Int) = ((mkK ch l (k + 1)).2.2 : Int) := by rw [N]
    refine gq ?_;refine yz intE [_] ?_;refine gq ?_;refine yz za6 [_] ?_;refine gq ?_;refine yw (k + 1)
   have N := zhI (ch := ch) hs V;have kT := zfx l l.length (k + 1) (by omega);have k5 : (yU l (k + 1)).length = (yU l k).length + 1 := by simp [yU, hs, V]
   have x0 := zmY J hs V;have v8 := zkf (ch := ch) J k x0 (by omega);have k4 : ch[((mkK ch l k).2.2 : Int).toNat]? = some (ch.getD (mkK ch l k).2.2 0) := by rw [wJ, jA, lgg (by omega)]; rfl
   have x4 : (mkK ch l k).1.set (((mkK ch l k).1.length : Int) - 1).toNat (ch.getD (mkK ch l k).2.2 0) = (mkK ch l (k + 1)).1 := by rw [N]
   have x3 : (mkK ch l k).2.1.set (((mkK ch l k).2.1.length : Int) - 1).toNat (decide (ch.getD (mkK ch l k).2.2 0 = 0)) = (mkK ch l (k + 1)).2.1 := by rw [N]
   have x2 : ((mkK ch l k).2.2 : Int) + 1 = ((mkK ch l (k + 1)).2.2 : Int) := by rw [N]; simp
   refine gq ?_;refine yw (k + 1)
  ·have w2 : k = l.length := by omega
   subst w2;apply k8;apply ye;(iterate 2 refine ya ?_);refine yy ?_;refine xU ?_;refine xQ ((xP (k := 101) rfl).trans (xP (k := 102) rfl)) ?_;refine k7 (.many (by decide) (.cons (.tmp rfl (xR ?_)) (.cons (.tmp rfl (xR ?_)) (.cons (.tmp rfl (xR ?_)) .nil))));all_goals (first | exact zE U | exact zE T | exact zE hE)
attribute [local irreducible] mnsD ckD
end
section
attribute [local irreducible] Pur yu yq Ex X Fn Imp LeV LeB FnO It yD
def rmOk (m : Mn) (v : Int) : Bool := decide (rmV (yp m v) ⟨3, 2⟩ = mulV (yp m v) ⟨3, 2⟩) && decide (rmV (durT m v) ⟨3, 2⟩ = mulV (durT m v) ⟨3, 2⟩)
def zpY : zgc rmOk = true := by kernel_rfl
def zxK {m : Mn} {s : Sg} {z : Tm} (hm : ckM m = 0) (Z : 1 <= s.Value) (V : s.Value <= 8) (U : z = bsT m s \/ z = ⟨3, 2⟩ \/ z = ⟨1, 2⟩) : rmV z ⟨3, 2⟩ = mulV z ⟨3, 2⟩ := by
 rcases U with rfl | rfl | rfl
 ·have h := zbQ zpY hm Z V;unfold rmOk at h;simp only [j7, wA] at h;unfold bsT; split
  ·exact h.2
  ·exact h.1
 ·decide +kernel
 ·decide +kernel
attribute [local irreducible] mkC mkA mkE duV duE itK itOf ckD mulV mulE rmV rmE
set_option maxHeartbeats 4000000 in
def zff (m : Mn) (l : List Sg) (ch mi : List Int) (hl : l.length <= 1000) (x4 : ch.length <= 4000000) (x3 : mi.length <= 1000) : Fn prog 184 [mnA m, sgsA l, yc ch, yc mi] (.tup [itsA (itmV m l ch mi), iv (itmE m l ch mi)]) := by
 refine xV func184 ntmps184 (fun g w d => ?_);refine gc (zfe m l hl ch x4) ?_;refine gd ?_ ?_<;>intro Z
 ·have hE : itmE m l ch mi = mkE m l ch := zmm Z;have I : itmV m l ch mi = [] := zh9 (by rw [hE]; exact Z);apply ye;refine yy ?_;refine xU ?_;refine xQ (yd (ts := [(8, itsA []), (9, iv (mkE m l ch))]) (hs := [])) ?_;refine yj ?_ ?_;all_goals (first | exact zE I | exact zE hE)
 refine gc (zfA m l mi hl x3) ?_;refine gd ?_ ?_<;>intro Q
 ·have hE : itmE m l ch mi = duE m l mi := zkn Z;have I : itmV m l ch mi = [] := zh9 (by rw [hE]; exact Q);apply ye;refine yy ?_;refine xU ?_;refine xQ (yd (ts := [(8, itsA []), (9, iv (duE m l mi))]) (hs := [])) ?_;refine yj ?_ ?_;all_goals (first | exact zE I | exact zE hE)
 have hE : itmE m l ch mi = 0 := (zkn Z).trans Q;have I := zmn hE;apply yl;apply ye;refine yh ?_;iterate 2 apply yg
 refine xZ (yF itE 183 12 14 201 rfl rfl) ?_;apply yi;refine yh ?_;apply xS;have v9 := ztU l (mkC m l ch) (mkA m l ch) (duV m l mi);refine zq (fun k => [(1, sgsA l), (10, yc (mkC m l ch)), (11, zaQ (mkA m l ch)), (13, tmsA (duV m l mi)), (14, .own 201), (15, iv (k : Int))]) (fun k => [(201, .row itE (itK l (mkC m l ch) (mkA m l ch) (duV m l mi) k) 183 12)]) l.length (fun k hk => ?_) (h0 := yd);refine gd ?_ ?_<;>intro v5
 ·obtain ⟨s, hs⟩ : ∃ s, l[k]? = some s := ⟨_, lgg (by omega)⟩;have v4 : l[(k : Int).toNat]? = some s := by simpa using hs
  have J := zh8 l (mkC m l ch) (mkA m l ch) (duV m l mi) k;have v3 := zkm l k;refine gd ?_ ?_<;>intro V
  ·have H := zm2 (c := mkC m l ch) (a := mkA m l ch) (d := duV m l mi) hs V;refine gq ?_;refine yw (k + 1)
  obtain ⟨x, y, z, hx, hy, hz, x0, v0, hm, v1, v8, x2⟩ := ztW Z Q hs V;have H := zpa hs V hx hy hz;have u3 : (mkC m l ch)[((itK l (mkC m l ch) (mkA m l ch) (duV m l mi) k).length : Int).toNat]? = some x := by rw [J]; simpa using hx
  have u2 : (mkA m l ch)[((itK l (mkC m l ch) (mkA m l ch) (duV m l mi) k).length : Int).toNat]? = some y := by rw [J]; simpa using hy
  have u1 : (duV m l mi)[((itK l (mkC m l ch) (mkA m l ch) (duV m l mi) k).length : Int).toNat]? = some z := by rw [J]; simpa using hz
  have U := zrm (zpc Z) hs V;have w2 : [iv k, iv s.Value, .bool (decide (s.Kind = 2)), .bool (s.Color && !decide (s.Kind = 2)), .bool false, iv x, iv z.N, iv z.D, iv 0, iv 1, iv 0, iv 1] = [iv k, iv s.Value, .bool (decide (s.Kind = 2)), .bool (decide (s.Kind = 1) && s.Color), .bool false, iv x, iv z.N, iv z.D, iv 0, iv 1, iv 0, iv 1] := by rw [zuY U]
  have T := zgz z ⟨3, 2⟩;rw [zxK hm v1 v8 x2] at T;rw [← zwV U] at H;apply yl;apply ye;refine yy ?_;refine zb0 ⟨[(1, sgsA l), (10, yc (mkC m l ch)), (11, zaQ (mkA m l ch)), (13, tmsA (duV m l mi)), (14, .own 201), (15, iv (k : Int)), (16, iv ((itK l (mkC m l ch) (mkA m l ch) (duV m l mi) k).length : Int)), (17, .ptr 17 0 0 0)], [(201, .row itE (itK l (mkC m l ch) (mkA m l ch) (duV m l mi) k) 183 12), (17, .box [iv k, iv s.Value, .bool (decide (s.Kind = 2)), .bool false, .bool false, iv x, iv z.N, iv z.D, iv 0, iv 1, iv 0, iv 1] 183)]⟩ (fun G => ?_) ?_
  ·refine yW [17,53,54,55,56,57,58,59,60,61,62,63,64,65,66,67,68,69,70,71,72,73,74,75] [0,0,0,6,14,30,0,0,192,448,960,1984,0,0,12288,28672,0,0,196608,458752,0,0,4194303,0,16777215] mo ?_;(iterate 23 refine yb ?_);refine ChM.step rfl rfl rfl (zu (k := 17) zgQ) rfl ?_;refine yA ?_;refine xY ?_;apply k9;exact xZ yk G
  refine zb0 ⟨[(1, sgsA l), (10, yc (mkC m l ch)), (11, zaQ (mkA m l ch)), (13, tmsA (duV m l mi)), (14, .own 201), (15, iv (k : Int)), (16, iv ((itK l (mkC m l ch) (mkA m l ch) (duV m l mi) k).length : Int)), (17, .ptr 17 0 0 0)], [(201, .row itE (itK l (mkC m l ch) (mkA m l ch) (duV m l mi) k) 183 12), (17, .box [iv k, iv s.Value, .bool (decide (s.Kind = 2)), .bool (decide (s.Kind = 1) && s.Color), .bool false, iv x, iv z.N, iv z.D, iv 0, iv 1, iv 0, iv 1] 183)]⟩ (fun E => ?_) ?_
  ·apply yi;(iterate 5 refine ya ?_);refine xX 5 ?_;refine ym ?_;(iterate 3 refine xW ?_);refine zdF ?_;(iterate 2 refine ya ?_);refine xY ?_;apply k9;exact xZ yk E
  refine gd ?_ ?_<;>intro xT
  ·subst xT;refine gq ?_;refine yM T ?_;(iterate 4 refine ya ?_);refine xY ?_;apply yE;(iterate 2 refine ya ?_);refine xX 2 ?_;refine ym ?_;(iterate 2 refine xW ?_);(iterate 2 refine ym ?_);(iterate 4 refine xW ?_);(iterate 2 refine ym ?_);(iterate 5 refine xW ?_);refine ge ?_;refine yz itE [itL k s (decide (s.Kind = 2) || (decide (s.Kind = 1) && s.Color) || true || decide (x = s.Value)) x (mulV z ⟨3, 2⟩)] ?_;refine gq ?_;refine yw (k + 1)
  ·subst xT;apply yl;apply ye;(iterate 2 refine ya ?_);refine xX 2 ?_;refine ym ?_;(iterate 2 refine xW ?_);(iterate 2 refine ym ?_);(iterate 4 refine xW ?_);(iterate 2 refine ym ?_);(iterate 5 refine xW ?_);refine ge ?_;refine yz itE [itL k s (decide (s.Kind = 2) || (decide (s.Kind = 1) && s.Color) || false || decide (x = s.Value)) x z] ?_;refine gq ?_;refine yw (k + 1)
 ·have x1 : k = l.length := by omega
  subst x1;apply k8;apply ye;refine yy ?_;refine xU ?_;refine xQ (xP (k := 201) rfl) ?_;refine yj ?_ ?_;all_goals (first | exact zE I | exact zE hE)
end
section
attribute [local irreducible] Pur yu yq Ex X Fn Imp LeV LeB FnO It yD
attribute [local irreducible] ckD zm twos prL
set_option maxHeartbeats 4000000 in
def zlJ (m : Mn) (l : List Sg) (hl : l.length <= 1000) : Fn prog 137 [mnA m, sgsA l] (.tup [yc (if ckD m l = 0 then zm m l else []), yc (twos (prL m l).length), iv (ckD m l)]) := by
 refine xV func137 ntmps137 (fun g w d => ?_);refine gc (zmg m l hl) ?_;refine gd ?_ ?_<;>intro Z
 ·have ht : [] = twos (prL m l).length := by rw [zmw Z]; unfold twos; rfl
  have hr : [] = (if ckD m l = 0 then zm m l else []) := by rw [j3 Z]
  apply ye;refine ya ?_;refine yy ?_;refine xU ?_;refine xQ (yd (ts := [(4, yc []), (5, yc []), (6, iv (ckD m l))]) (hs := [])) ?_;refine k7 (.many (by decide) (.cons (.tmp rfl (xR ?_)) (.cons (.tmp rfl (xR ?_)) (.cons (.tmp rfl (xR ?_)) .nil))));all_goals (first | exact j5 yc ht | exact j5 yc hr | rfl)
 refine gc (zkC m l hl) ?_;refine gd ?_ ?_<;>intro V
 ·exact absurd Z V
 refine gq ?_;refine k7 (.many (by decide) (.cons (.tmp rfl (xR ?_)) (.cons (.tmp rfl (xR ?_)) (.cons (.tmp rfl (xR ?_)) .nil))));all_goals (first | rfl | exact j5 (AV.int .i64) Z.symm)
end
section
attribute [local irreducible] Pur yu yq Ex X Fn Imp LeV LeB FnO It yD
attribute [local irreducible] ckD zm twos prL mnsD
def zfN (m : Mn) (l : List Sg) (hl : l.length <= 1000) : Fn prog 183 [mnA m, sgsA l] (.tup [yc (if ckD m l = 0 then zm m l else []), yc (twos (prL m l).length), iv (ckD m l)]) := by
 refine xV func183 ntmps183 (fun g w d => ?_);refine gc (zfc m l hl) ?_;refine gd ?_ ?_<;>intro Z
 ·have ht : [] = twos (prL m l).length := by rw [zmw Z]; unfold twos; rfl
  have hr : [] = (if ckD m l = 0 then zm m l else []) := by rw [j3 Z]
  apply ye;refine ya ?_;refine yy ?_;refine xU ?_;refine xQ (yd (ts := [(4, yc []), (5, yc []), (6, iv (ckD m l))]) (hs := [])) ?_;refine k7 (.many (by decide) (.cons (.tmp rfl (xR ?_)) (.cons (.tmp rfl (xR ?_)) (.cons (.tmp rfl (xR ?_)) .nil))));all_goals (first | exact j5 yc ht | exact j5 yc hr | rfl)
 refine gc (zfM m l hl) ?_;refine gd ?_ ?_<;>intro V
 ·exact absurd Z V
 refine gq ?_;refine k7 (.many (by decide) (.cons (.tmp rfl (xR ?_)) (.cons (.tmp rfl (xR ?_)) (.cons (.tmp rfl (xR ?_)) .nil))));all_goals (first | rfl | exact j5 (AV.int .i64) Z.symm)
end
end Go.Rse
namespace Go.Rse
open Go Go.Proofs Go.RowKit Go.Proofs.Tryz
attribute [local irreducible] Pur yu yq Ex X Fn Imp LeV LeB FnO It yD
def zpZ (m : Mn) (l : List Sg) (ch mi : List Int) : (itmV m l ch mi).length <= l.length := by
 unfold itmV; split
 ·rw [zh8]; exact zkm l _
 ·simp
attribute [local irreducible] itmE itmV zm ckD twos prL
end Go.Rse
namespace Go.Rse
open Go Go.Proofs Go.Proofs.Tryz
section
def rdI (m : Mn) (l : List Sg) : List Ite := itmV m l (zm m l) (twos (prL m l).length)
def rdE (m : Mn) (l : List Sg) : Int := if ckD m l = 0 then leE m (rdI m l) else ckD m l
def rdV (m : Mn) (l : List Sg) : Rdg := if rdE m l = 0 then ⟨zm m l, twos (prL m l).length, leC m (rdI m l), (leI m (rdI m l)).map (·.Dur)⟩ else ⟨[], [], [], []⟩
section
variable {m : Mn} {l : List Sg}
def zp0 (h : ckD m l = 0) : itmE m l (zm m l) (twos (prL m l).length) = 0 := by
 unfold itmE;rw [j4 (zrA (zee h).1 h)]; exact zrB h
def zxL (h : ¬ ckD m l = 0) : rdE m l = ckD m l /\ rdV m l = ⟨[], [], [], []⟩ := by
 have : rdE m l = ckD m l := by unfold rdE; rw [j3 h]
 refine ⟨this, ?_⟩; unfold rdV; rw [this, j3 h]
def zxM (h : ckD m l = 0) (Z : ¬ leE m (rdI m l) = 0) : rdE m l = leE m (rdI m l) /\ rdV m l = ⟨[], [], [], []⟩ := by
 have : rdE m l = leE m (rdI m l) := by unfold rdE; rw [j4 h]
 refine ⟨this, ?_⟩; unfold rdV; rw [this, j3 Z]
def zxN (h : ckD m l = 0) (Z : leE m (rdI m l) = 0) : rdE m l = 0 /\ rdV m l = ⟨zm m l, twos (prL m l).length, leC m (rdI m l), (leI m (rdI m l)).map (·.Dur)⟩ := by
 have : rdE m l = 0 := by unfold rdE; rw [j4 h, Z]
 refine ⟨this, ?_⟩; unfold rdV; rw [this, j4 rfl]
def zkD : (rdI m l).length <= l.length := zpZ _ _ _ _
end
def znm {m : Mn} : ∀ (L : List Int) (l : List Ite) (C : List Int), (lvF m L l C).2.1.length <= l.length
 | [], l, C => jC _
 | k :: r, l, C => by
  unfold lvF;split
  ·rename_i h;have := znm (m := m) r (apV m k l (cuV m k l)) (C ++ cuV m k l);rw [zkr (zlx h)] at this; exact this
  ·simp
def zkE (m : Mn) (l : List Ite) : (leI m l).length <= l.length := by
 unfold leI;split
 ·exact znm _ _ _
 ·simp
def zp1 {l : List Ite} {n : Nat} {x : Ite} (h : l[n]? = some x) : (l.take n).map (·.Dur) ++ [x.Dur] = (l.take (n + 1)).map (·.Dur) := by
 rw [jE, h]; simp
end
section
def cnP (m : Mn) (h : Hb) : List Bt -> Nat
 | [] => 1
 | b :: r => (frV m b h).length * cnP m h r
theorem zlK (m : Mn) (h : Hb) (b : Bt) : ∀ l, cnP m h (l ++ [b]) = cnP m h l * (frV m b h).length
 | [] => by simp [cnP]
 | x :: r => by
  simp [cnP, zlK, Nat.mul_assoc]
def zxO {m : Mn} {h : Hb} {l : List Bt} {i : Nat} {b : Bt} (hi : l[i]? = some b) : cnP m h (l.take (i + 1)) = cnP m h (l.take i) * (frV m b h).length := by
 grind [List.take_add_one, zlK]
def zp2 (m : Mn) (h : Hb) : ∀ l, cnP m h l <= 32 ^ l.length
 | [] => jC _
 | b :: r => by
  have Z := zgn m b h;have V := zp2 m h r;show (frV m b h).length * cnP m h r <= 32 ^ (r.length + 1);rw [Nat.pow_succ, wT];exact xK V Z
def zvt {m : Mn} {h : Hb} {l : List Bt} (hl : l.length <= 12) (i : Nat) : cnP m h (l.take i) <= 1152921504606846976 := by
 refine jQ (zp2 m h _) ?_;rw [show 1152921504606846976 = 32 ^ 12 by decide];exact uX (by decide) (by grind)
def wcnE (m : Mn) (l : List Bt) (h : Hb) : Int := if wcE m l = 0 then (if 12 < l.length then 11 else if 4096 < cnP m h l then 15 else 0) else wcE m l
def wcnV (m : Mn) (l : List Bt) (h : Hb) : Int := if wcnE m l h = 0 then (cnP m h l : Int) else 0
def cqO (m : Mn) (h : Hb) (l : List Bt) : Bool := l.any fun b => decide ((frV m b h).length = 0)
def cqS (m : Mn) (h : Hb) (n : Nat) (b : Bt) : Nat := if 0 < (frV m b h).length /\ n <= 4096 then n * (frV m b h).length else n
def cqN (m : Mn) (h : Hb) (l : List Bt) : Nat := l.foldl (cqS m h) 1
def zxP {m : Mn} {h : Hb} {l : List Bt} {i : Nat} {b : Bt} (hi : l[i]? = some b) : cqO m h (l.take (i + 1)) = (cqO m h (l.take i) || decide ((frV m b h).length = 0)) := by
 unfold cqO; rw [jE, hi]; simp
def zxQ {m : Mn} {h : Hb} {l : List Bt} {i : Nat} {b : Bt} (hi : l[i]? = some b) : cqN m h (l.take (i + 1)) = cqS m h (cqN m h (l.take i)) b := by
 unfold cqN; rw [jE, hi]; simp
def zvu {m : Mn} {h : Hb} {b : Bt} {n : Nat} (U : n <= 131072) : cqS m h n b <= 131072 := by
 have V := zgn m b h;unfold cqS;generalize (frV m b h).length = k at V ⊢;by_cases Z : 0 < k /\ n <= 4096
 ·rw [j4 Z];have T : n * k <= 4096 * k := jS k Z.2;omega
 grind
attribute [local irreducible] cqS frV
def zvv (m : Mn) (h : Hb) (l : List Bt) : ∀ (n : Nat), n <= 131072 -> l.foldl (cqS m h) n <= 131072 := by
 induction l <;> simp_all [zvu]
def zuh (m : Mn) (h : Hb) (l : List Bt) : ∀ (n : Nat), 1 <= n -> cqO m h l = false -> (4096 < l.foldl (cqS m h) n ↔ 4096 < n * cnP m h l) /\ (n * cnP m h l <= 4096 -> l.foldl (cqS m h) n = n * cnP m h l) := by
 induction l with
 | nil => simp [cnP]
 | cons b r ih =>
  intro n V h0;unfold cqO at h0;simp only [xM, Bool.or_eq_false_iff, jT] at h0;obtain ⟨J, Z⟩ := h0
  have T : 0 < cnP m h r := by
   clear V ih
   induction r with
   | nil => simp [cnP]
   | cons x r ih2 =>
    simp only [xM, Bool.or_eq_false_iff, jT] at Z;exact Nat.mul_pos (by omega) (ih2 Z.2)
  rw [vS, show cnP m h (b :: r) = (frV m b h).length * cnP m h r by rw [cnP]];rw [← Nat.mul_assoc];have Q : 0 < (frV m b h).length := by omega
  by_cases U : n <= 4096
  ·have e : cqS m h n b = n * (frV m b h).length := by simp_all [cqS]
   rw [e];exact ih _ (Nat.mul_pos V Q) Z
  ·have e : cqS m h n b = n := by unfold cqS; rw [j3 (fun N => U N.2)]
   rw [e];have i1 := ih n V Z;have g1 : 4096 < n * cnP m h r := jR (by omega) (vY n T);have g2 : 4096 < n * (frV m b h).length * cnP m h r := jR (by omega) (jQ (vY n Q) (vY _ T));omega
def znn {m : Mn} {h : Hb} : ∀ {l : List Bt}, cqO m h l = true -> cnP m h l = 0
 | [], Z => by simp [cqO] at Z
 | b :: r, Z => by
  unfold cqO at Z;simp only [xM, w8, wA] at Z;show (frV m b h).length * cnP m h r = 0;rcases Z with Z | Z
  ·grind
  ·rw [znn (l := r) Z, Nat.mul_zero]
def reQ (m : Mn) (l : List Sg) (D : List Tm) : Bool := decide (rdE m l = 0) && decide ((rdV m l).Durs = D)
def srV (m : Mn) (D : List Tm) : List (List (List Sg)) -> List Sg -> Option (List Sg)
 | [], run => if reQ m run D then some run else none
 | F :: r, run => F.findSome? fun f => srV m D r (run ++ f)
def zno {m : Mn} {D : List Tm} {r : List (List (List Sg))} {run : List Sg} {F : List (List Sg)} {i : Nat} {f : List Sg} (hi : F[i]? = some f) (h0 : (F.take i).findSome? (fun f => srV m D r (run ++ f)) = none) : (F.take (i + 1)).findSome? (fun f => srV m D r (run ++ f)) = srV m D r (run ++ f) := by
 grind [List.take_add_one]
def zlL {m : Mn} {D : List Tm} {r : List (List (List Sg))} {run : List Sg} {F : List (List Sg)} {i : Nat} {x : List Sg} (h : (F.take i).findSome? (fun f => srV m D r (run ++ f)) = some x) : srV m D (F :: r) run = some x := by
 grind [srV, List.take_append_drop]
def zkF {m : Mn} {D : List Tm} : ∀ {C : List (List (List Sg))} {run x : List Sg} {n : Nat}, (∀ F ∈ C, ∀ f ∈ F, 1 <= f.length /\ f.length <= n) -> srV m D C run = some x -> run.length + C.length <= x.length /\ x.length <= run.length + n * C.length
 | [], run, x, n, _, h => by
  simp_all [srV]
 | F :: r, run, x, n, Z, h => by
  unfold srV at h;obtain ⟨f, hf, V⟩ := List.exists_of_findSome?_eq_some h;obtain ⟨T, Q⟩ := zkF (n := n) (fun G U => Z G (u5 _ U)) V
  grind [Nat.mul_succ]
def chV (m : Mn) (l : List Bt) (h : Hb) : List (List (List Sg)) := l.map fun b => frV m b h
theorem zr1 (r : Bool) (f : Fo) : 1 <= (foS r f).length /\ (foS r f).length <= 2 := by
 grind [foS]
theorem zp3 {m : Mn} {b : Bt} {h : Hb} {f : List Sg} (hf : f ∈ frV m b h) : 1 <= f.length /\ f.length <= 2 := by
 grind [frV, zr1]
def zp4 {m : Mn} {l : List Bt} {h : Hb} : ∀ F ∈ chV m l h, ∀ f ∈ F, 1 <= f.length /\ f.length <= 2 := fun F Z f hf => by
 grind [chV, zp3]
def wrO (m : Mn) (l : List Bt) (h : Hb) : Option (List Sg) := srV m (durB l) (chV m l h) []
def wrE (m : Mn) (l : List Bt) (h : Hb) : Int := if wcnE m l h = 0 then (if l = [] then 0 else if (wrO m l h).isSome then 0 else 18) else wcnE m l h
def wrV (m : Mn) (l : List Bt) (h : Hb) : List Sg := if wcnE m l h = 0 then (if l = [] then [] else (wrO m l h).getD []) else []
theorem znp {m : Mn} {D : List Tm} {h : Hb} : ∀ {l : List Bt} {run : List Sg}, cnP m h l = 0 -> srV m D (chV m l h) run = none
 | [], run, Z => by simp [cnP] at Z
 | b :: r, run, Z => by
  show (frV m b h).findSome? (fun f => srV m D (chV m r h) (run ++ f)) = none;rcases Nat.mul_eq_zero.1 (show (frV m b h).length * cnP m h r = 0 from Z) with h0 | h0
  ·simp_all
  ·rw [List.findSome?_eq_none_iff];intro f _;exact znp h0
end
end Go.Rse
