/-
  Walks: the program's items.
-/
import Derived.Test.YtbilklnipfabpaaGreatDoorKJLvl16
import Derived.Test.YtbilklnipfabpaaGreatDoorKDot9
import Derived.Test.YtbilklnipfabpaaGreatDoorKJFull1
import Derived.Test.YtbilklnipfabpaaGreatDoorKJDurs2
import Derived.Test.YtbilklnipfabpaaGreatDoorKJColor4
import Derived.Test.YtbilklnipfabpaaGreatDoorKLogB
import Derived.Test.YtbilklnipfabpaaGreatDoorKLogC
set_option linter.unusedSimpArgs false
set_option linter.unusedVariables false
namespace Go.Rse
open Go Go.Proofs
attribute [local irreducible] Pur yA yC Ex X Fn Imp LeV LeB FnO It yF
attribute [local irreducible] mkC mkA mkE duV duE itK itOf ckD mulV mulE
set_option maxHeartbeats 4000000 in
theorem zdP (m : Mn) (l : List Sg) (ch mi : List Int) (hl : l.length <= 1000) (hmi : mi.length <= 1000) : Fn Tryz.prog 44 [mnA m, sgsA l, yg ch, yg mi] (.tup [itsA (itmV m l ch mi), iv (itmE m l ch mi)]) := by
 refine Fn.go Tryz.func44 Tryz.ntmps44 (fun g w d => ?_);apply yb;refine yI ?_;refine yh ?_;apply yd;apply yb;iterate 2 refine ya ?_
 refine ym (za1 m l hl) ?_;refine ya ?_;apply yj;refine yh ?_;refine yl rfl ?_ ?_<;>intro hc1
 ·have hE : itmE m l ch mi = ckD m l := by rw [zkX (by rw [ziH hc1]; exact hc1), ziH hc1]
  have hV : itmV m l ch mi = [] := ziI (by rw [hE]; exact hc1);apply yb;refine yu ?_;refine X.ret ?_;refine RetQ.imp (yi (ts := [(8, itsA []), (9, iv (ckD m l))]) (hs := [])) ?_;refine yx ?_ ?_;all_goals (first | (rw [hV]; done) | (rw [hE]; done) | (rw [hV]; rfl) | (rw [hE]; rfl))
 apply yf;apply yb;iterate 3 refine ya ?_
 refine ym (zhK m l hl ch) ?_;iterate 6 refine ya ?_
 refine ye ?_;apply yd;apply yb;refine yh ?_;refine yl rfl ?_ ?_<;>intro hc2
 ·have hE : itmE m l ch mi = mkE m l ch := zkX hc2;have hV : itmV m l ch mi = [] := ziI (by rw [hE]; exact hc2);apply yb;refine yu ?_;refine X.ret ?_;refine RetQ.imp (yi (ts := [(8, itsA []), (9, iv (mkE m l ch))]) (hs := [])) ?_;refine yx ?_ ?_;all_goals (first | (rw [hV]; done) | (rw [hE]; done) | (rw [hV]; rfl) | (rw [hE]; rfl))
 apply yf;apply yb;iterate 3 refine ya ?_
 refine ym (zg7 m l mi hl hmi) ?_;refine zh ?_;apply yd;apply yb;refine yh ?_;refine yl rfl ?_ ?_<;>intro hc3
 ·have hE : itmE m l ch mi = duE m l mi := zkY hc2;have hV : itmV m l ch mi = [] := ziI (by rw [hE]; exact hc3);apply yb;refine yu ?_;refine X.ret ?_;refine RetQ.imp (yi (ts := [(8, itsA []), (9, iv (duE m l mi))]) (hs := [])) ?_;refine yx ?_ ?_;all_goals (first | (rw [hV]; done) | (rw [hE]; done) | (rw [hV]; rfl) | (rw [hE]; rfl))
 have hE : itmE m l ch mi = 0 := (zkY hc2).trans hc3;have hV := zoL hE;apply yf;apply yb;refine ye ?_;iterate 2 apply yd
 refine X.imp (zb itE 95 12 15 201 rfl rfl) ?_;apply yc;refine yu ?_;apply X.block;have hr0 := zqb l (mkC m l ch) (mkA m l ch) (duV m l mi);refine zp (ι := Nat) (fun (k : Nat) => [(11, yg (mkC m l ch)), (12, zdD (mkA m l ch)), (14, tmsA (duV m l mi)), (15, .own 201), (47, sgsA l), (48, iv l.length), (49, iv (k : Int))]) (fun (k : Nat) => [(201, .row itE (itK l (mkC m l ch) (mkA m l ch) (duV m l mi) k) 95 12)]) (fun (k : Nat) => k <= l.length) (fun (k : Nat) => l.length - k) 0 (fun k hk => ?_);apply yb;refine ye ?_;apply yd;refine yl rfl ?_ ?_<;>intro hc4
 ·obtain ⟨s, hs⟩ : ∃ s, l[k]? = some s := ⟨_, lgg (by omega)⟩;have hs2 : l[(k : Int).toNat]? = some s := by simpa using hs
  have hnt := ziG l (mkC m l ch) (mkA m l ch) (duV m l mi) k;have hnl := ziE l k;apply yf;apply yd;apply X.block;apply yb;iterate 3 refine ya ?_
  refine yJ ?_;refine ya ?_;refine Ex.mo ?_;apply Ex.nil;apply yd;apply yb;refine yu ?_;refine yl rfl ?_ ?_<;>intro hc5
  ·have hst := zjb (c := mkC m l ch) (a := mkA m l ch) (d := duV m l mi) hs hc5;apply X.exit;apply yc;refine yh ?_;refine y2 (k + 1)
  obtain ⟨x, y, z, hx, hy, hz, hmul, hlt, hm, v1, v8⟩ := zqc hc2 hc3 hs hc5;have hst := zoJ hs hc5 hx hy hz;have hx2 : (mkC m l ch)[((itK l (mkC m l ch) (mkA m l ch) (duV m l mi) k).length : Int).toNat]? = some x := by rw [hnt]; simpa using hx
  have hy2 : (mkA m l ch)[((itK l (mkC m l ch) (mkA m l ch) (duV m l mi) k).length : Int).toNat]? = some y := by rw [hnt]; simpa using hy
  have hz2 : (duV m l mi)[((itK l (mkC m l ch) (mkA m l ch) (duV m l mi) k).length : Int).toNat]? = some z := by rw [hnt]; simpa using hz
  apply yf;apply yb;refine yu ?_;refine zhG ⟨[(11, yg (mkC m l ch)), (12, zdD (mkA m l ch)), (14, tmsA (duV m l mi)), (15, .own 201), (18, iv ((itK l (mkC m l ch) (mkA m l ch) (duV m l mi) k).length : Int)), (19, .ptr 19 0 0 0), (47, sgsA l), (48, iv l.length), (49, iv (k : Int))], [(201, .row itE (itK l (mkC m l ch) (mkA m l ch) (duV m l mi) k) 95 12), (19, .box [iv k, iv s.Value, .bool (decide (s.Kind = 2)), .bool (decide (s.Kind = 1) && s.Color), .bool false, iv x, iv z.N, iv z.D, iv 0, iv 0, iv 0, iv 0] 95)]⟩ (fun hJ17 => ?_) ?_
  ·refine zI [19,59,60,61,62,63,64,65,66,67,68,69,70,71,72,73,74,75,76,77,78,79,80] [0,0,2,0,8,24,0,64,192,448,960,1984,4032,0,0,24576,57344,0,0,393216,917504,2097151,0,8388607] mo ?_;(iterate 10 refine yk ?_);(iterate 2 refine ChM.gi ?_);(iterate 10 refine yk ?_);refine ChM.step rfl rfl rfl (zaX (k := 19) zc95) rfl ?_;refine zf ?_;refine Ex.mo ?_;apply Ex.nil;exact X.imp yD hJ17
  refine zhG ⟨[(11, yg (mkC m l ch)), (12, zdD (mkA m l ch)), (14, tmsA (duV m l mi)), (15, .own 201), (18, iv ((itK l (mkC m l ch) (mkA m l ch) (duV m l mi) k).length : Int)), (19, .ptr 19 0 0 0), (47, sgsA l), (48, iv l.length), (49, iv (k : Int))], [(201, .row itE (itK l (mkC m l ch) (mkA m l ch) (duV m l mi) k) 95 12), (19, .box [iv k, iv s.Value, .bool (decide (s.Kind = 2)), .bool (decide (s.Kind = 1) && s.Color), .bool false, iv x, iv z.N, iv z.D, iv 0, iv 1, iv 0, iv 1] 95)]⟩ (fun hJ18 => ?_) ?_
  ·apply yc;(iterate 3 refine ya ?_);refine Ex.mo ?_;refine ya ?_;refine Ex.mo ?_;apply Ex.nil;exact X.imp yD hJ18
  apply yd;apply X.block;apply yd;apply X.block;apply yd;apply X.block;iterate 2 apply yd
  apply yb;refine zh ?_;refine yl rfl ?_ ?_<;>intro hc6
  ·rw [← zqd hc6] at hst;apply X.exit;apply yb;(iterate 3 refine ya ?_);refine ym (zdu z ⟨3, 2⟩) ?_;(iterate 4 refine ya ?_);refine Ex.mo ?_;refine ya ?_;apply yj;refine yh ?_;refine yl rfl ?_ ?_<;>intro hc7
   ·exact absurd hmul hc7
   apply yf;apply yb;refine ya ?_;refine Ex.mo ?_;apply Ex.nil;apply X.exit;apply yc;(iterate 2 refine ya ?_);refine zi itE [itL k s true x (mulV z ⟨3, 2⟩)] ?_;refine Ex.mo ?_;refine ye ?_;apply yc;refine yh ?_;refine y2 (k + 1)
  apply yf;apply yd;apply yb;refine yu ?_;refine yl rfl ?_ ?_<;>intro hc8
  ·apply yf;refine yl rfl ?_ ?_<;>intro hc9
   ·rw [← zkZ hc6 (.inl hc8)] at hst;apply X.exit;apply yb;refine ya ?_;refine Ex.mo ?_;apply Ex.nil;apply X.exit;apply yc;(iterate 2 refine ya ?_);refine zi itE [itL k s true x z] ?_;refine Ex.mo ?_;refine ye ?_;apply yc;refine yh ?_;refine y2 (k + 1)
   exact absurd hc8 hc9
  ·apply yb;refine yu ?_;refine yl rfl ?_ ?_<;>intro hc10
   ·apply yf;refine yl rfl ?_ ?_<;>intro hc11
    ·rw [← zkZ hc6 (.inr (.inl (by unfold clr; rw [decide_eq_true hc11.1, hc11.2]; rfl)))] at hst;apply X.exit;apply yb;refine ya ?_;refine Ex.mo ?_;apply Ex.nil;apply X.exit;apply yc;(iterate 2 refine ya ?_);refine zi itE [itL k s true x z] ?_;refine Ex.mo ?_;refine ye ?_;apply yc;refine yh ?_;refine y2 (k + 1)
    exact absurd hc11 (fun hc11 => hc11.elim (fun h => h hc10.1) (fun h => by rw [hc10.2] at h; cases h))
   ·apply yc;(iterate 5 refine ya ?_);refine ye ?_;refine yl rfl ?_ ?_<;>intro hc12
    ·rw [← zkZ hc6 (.inr (.inr hc12))] at hst;apply X.exit;apply yb;refine ya ?_;refine Ex.mo ?_;apply Ex.nil;apply X.exit;apply yc;(iterate 2 refine ya ?_);refine zi itE [itL k s true x z] ?_;refine Ex.mo ?_;refine ye ?_;apply yc;refine yh ?_;refine y2 (k + 1)
    rw [← zqe hc6 hc8 (by unfold clr; rcases hc10 with h | h <;> simp [h]) hc12] at hst;apply yf;apply X.exit;apply yc;(iterate 2 refine ya ?_);refine zi itE [itL k s false x z] ?_;refine Ex.mo ?_;refine ye ?_;apply yc;refine yh ?_;refine y2 (k + 1)
 ·have hkl : k = l.length := by omega
  subst hkl;apply X.exit;apply yb;refine yu ?_;refine X.ret ?_;refine RetQ.imp (Imp.freeze (k := 201) rfl) ?_;refine yx ?_ ?_;all_goals (first | (rw [hV]; done) | (rw [hE]; done) | (rw [hV]; rfl) | (rw [hE]; rfl))
end Go.Rse
namespace Go.Rse
open Go Go.Proofs
attribute [local irreducible] Pur yA yC Ex X Fn Imp LeV LeB FnO It yF
attribute [local irreducible] mnsD zay ofV ofL ofE ofD cntE cntV ckD
end Go.Rse
namespace Go.Rse
open Go Go.Proofs
attribute [local irreducible] Pur yA yC Ex X Fn Imp LeV LeB FnO It yF
attribute [local irreducible] mkC mkA mkE duV duE itK itOf ckD mulV mulE
end Go.Rse
namespace Go.Rse
open Go Go.Proofs
attribute [local irreducible] Pur yA yC Ex X Fn Imp LeV LeB FnO It yF
def ica (m : Mn) (l : List Sg) : Int := if ictE m l = 0 then cntV m l else 0
def icb (m : Mn) (l : List Sg) : Int := if ictE m l = 0 then colN m l else 0
theorem zje (m : Mn) (l : List Sg) : 0 <= cntV m l := by
 unfold cntV; split
 ·next h =>
  have := zfw (L := mnsD m l) (n := 1) (fun x hx => zfx h hx) (by omega) (by omega);split <;> omega
 ·omega
theorem zk8 (m : Mn) (l : List Sg) : 0 <= colN m l /\ colN m l <= 64 := by
 unfold colN; split
 ·split
  ·omega
  ·have := zbT (k := (prL m l).length) (by omega); omega
 ·omega
theorem zoR {m : Mn} {l : List Sg} {e : Int} (h : ictE m l = e) (he : ¬ e = 0) : 0 = ica m l /\ 0 = icb m l := by
 unfold ica icb; rw [if_neg (by rw [h]; exact he), if_neg (by rw [h]; exact he)]; exact ⟨rfl, rfl⟩
theorem zqi {m : Mn} {l : List Sg} (h : ictE m l = 0) : cntV m l = ica m l /\ colN m l = icb m l := by
 unfold ica icb; rw [if_pos h, if_pos h]; exact ⟨rfl, rfl⟩
theorem zqj (m : Mn) (l : List Sg) : 0 <= ica m l /\ ica m l <= 64 /\ 0 <= icb m l /\ icb m l <= 64 /\ ica m l * icb m l = ictV m l := by
 have h1 := zje m l;have h2 := zg5 (m := m) (l := l);have h3 := zk8 m l;unfold ica icb ictV;by_cases h : ictE m l = 0
 ·rw [if_pos h, if_pos h, if_pos h]; exact ⟨h1, h2, h3.1, h3.2, rfl⟩
 ·rw [if_neg h, if_neg h, if_neg h]; exact ⟨by omega, by omega, by omega, by omega, rfl⟩
theorem zmI (n : Int) : dgL n [] = ([], n) := rfl
theorem zk9 (n b : Int) (r : List Int) : dgL n (b :: r) = ((dgL n r).2 % b :: (dgL n r).1, (dgL n r).2 / b) := rfl
theorem zmJ (n a b : Int) : dgL n [a, b] = ([n / b % a, n % b], n / b / a) := rfl
attribute [local irreducible] cntV cntE colN colE ictE ictV ica icb dgL iofE iofD iofM ckD zdL prL
set_option maxHeartbeats 4000000 in
theorem zdh (m : Mn) (l : List Sg) (hl : l.length <= 1000) : Fn Tryz.prog 108 [mnA m, sgsA l] (.tup [iv (ica m l), iv (icb m l), iv (ictE m l)]) := by
 have q1 := zje m l;have q2 := zg5 (m := m) (l := l);have q3 := zk8 m l;have q4 := mulB q1 q2 q3.1 q3.2;refine Fn.go Tryz.func108 Tryz.ntmps108 (fun g w d => ?_);apply yb;refine yI ?_;iterate 3 refine ya ?_
 apply yj;iterate 2 refine ya ?_
 refine ym (zeA m l hl) ?_;refine zh ?_;apply yd;apply yb;refine yh ?_;refine yl rfl ?_ ?_<;>intro hc1
 ·have hE : cntE m l = ictE m l := by unfold ictE; rw [if_neg hc1]
  have hZ1 := zoR hE.symm hc1;obtain ⟨hA, hB⟩ := hZ1;apply yb;refine zad ?_;refine X.ret ?_;refine RetQ.ret (.many (by decide) (.cons (.tmp rfl (LeV.eq ?_)) (.cons (.tmp rfl (LeV.eq ?_)) (.cons (.tmp rfl (LeV.eq ?_)) .nil))));all_goals (first | exact congrArg (AV.int .i64) hA | exact congrArg (AV.int .i64) hB | exact congrArg (AV.int .i64) hE)
 apply yf;apply yb;iterate 2 refine ya ?_
 refine ym (zdg m l hl) ?_;refine zh ?_;apply yd;apply yb;refine yh ?_;refine yl rfl ?_ ?_<;>intro hc2
 ·have hE : colE m l = ictE m l := by unfold ictE; rw [if_pos hc1, if_neg hc2]
  have hZ2 := zoR hE.symm hc2;obtain ⟨hA, hB⟩ := hZ2;apply yb;refine zad ?_;refine X.ret ?_;refine RetQ.ret (.many (by decide) (.cons (.tmp rfl (LeV.eq ?_)) (.cons (.tmp rfl (LeV.eq ?_)) (.cons (.tmp rfl (LeV.eq ?_)) .nil))));all_goals (first | exact congrArg (AV.int .i64) hA | exact congrArg (AV.int .i64) hB | exact congrArg (AV.int .i64) hE)
 apply yf;apply yd;apply yb;refine zad ?_;refine yl rfl ?_ ?_<;>intro hc3
 ·have hE : 15 = ictE m l := by unfold ictE; rw [if_pos hc1, if_pos hc2, if_pos hc3]
  have hZ3 := zoR hE.symm (by decide);obtain ⟨hA, hB⟩ := hZ3;apply yb;refine yu ?_;refine X.ret ?_;refine RetQ.ret (.many (by decide) (.cons (.tmp rfl (LeV.eq ?_)) (.cons (.tmp rfl (LeV.eq ?_)) (.cons (.tmp rfl (LeV.eq ?_)) .nil))));all_goals (first | exact congrArg (AV.int .i64) hA | exact congrArg (AV.int .i64) hB | exact congrArg (AV.int .i64) hE)
 have hE : 0 = ictE m l := by unfold ictE; rw [if_pos hc1, if_pos hc2, if_neg (by omega)]
 have hZ4 := zqi hE.symm;obtain ⟨hA, hB⟩ := hZ4;apply yf;apply yb;refine zh ?_;refine X.ret ?_;refine RetQ.ret (.many (by decide) (.cons (.tmp rfl (LeV.eq ?_)) (.cons (.tmp rfl (LeV.eq ?_)) (.cons (.tmp rfl (LeV.eq ?_)) .nil))));all_goals (first | exact congrArg (AV.int .i64) hA | exact congrArg (AV.int .i64) hB | exact congrArg (AV.int .i64) hE)
set_option maxHeartbeats 4000000 in
theorem zg8 (m : Mn) (l : List Sg) (hl : l.length <= 1000) : Fn Tryz.prog 65 [mnA m, sgsA l] (.tup [iv (ictV m l), iv (ictE m l)]) := by
 have hZ1 := zqj m l;obtain ⟨q1, q2, q3, q4, q5⟩ := hZ1;have q6 := mulB q1 q2 q3 q4;refine Fn.go Tryz.func65 Tryz.ntmps65 (fun g w d => ?_);apply yb;refine yI ?_;iterate 2 refine ya ?_
 apply yj;iterate 2 refine ya ?_
 refine ym (zdh m l hl) ?_;iterate 7 refine ya ?_
 apply yj;iterate 5 refine ya ?_
 refine ye ?_;refine X.ret ?_;refine yx ?_ ?_;all_goals (first | rfl | exact congrArg (AV.int .i64) q5)
set_option maxHeartbeats 4000000 in
theorem zgj (N : Nat) (bs : List Int) (n : Int) (hN : bs.length = N) (h0 : 0 <= n) (h1 : n <= 9223372036854775807) (hb : ∀ x ∈ bs, 1 <= x) (hl : N <= 1000) : Fn Tryz.prog 109 [iv n, yg bs] (.tup [yg (dgL n bs).1, iv (dgL n bs).2]) := by
 induction N using Nat.strongRecOn generalizing bs n
 rename_i N ih;refine Fn.go Tryz.func109 Tryz.ntmps109 (fun g w d => ?_);apply yb;refine yh ?_;apply yd;apply yb;refine yu ?_;refine yl rfl ?_ ?_<;>intro hc1
 ·have hbs : bs = [] := List.length_eq_zero_iff.1 (by omega);subst hbs;have hD := zmI n;apply yb;refine yu ?_;refine X.ret ?_;refine RetQ.imp (yi (ts := [(4, yg []), (5, iv n)]) (hs := [])) ?_;refine yx ?_ ?_;all_goals (first | (rw [hD]; done) | (rw [hD]; rfl))
 obtain ⟨b, r, rfl⟩ : ∃ b r, bs = b :: r := by
  cases bs with
  | nil => simp at hc1
  | cons b r => exact ⟨b, r, rfl⟩
 have hD := zk9 n b r;have hb1 := hb b (by simp);have hZ1 := zlj (l := r) h0 (fun x hx => hb x (by simp [hx]));obtain ⟨hr0, hr1⟩ := hZ1;have hrl := zjk r n;have hNr : r.length + 1 = N := by simpa using hN
 have hg0 : (b :: r)[(0 : Int).toNat]? = some b := rfl;apply yf;apply yb;iterate 2 refine ya ?_
 first
  | refine zT (zbb rfl rfl rfl sl22 ty3 (by omega) (by omega)) rfl ?_
  | refine zT (zeI rfl rfl sl22 ty3 (fun _ => rfl) (by omega) (by omega)) rfl ?_
 refine ym (ih r.length (by simp at hN; omega) r n rfl h0 h1 (fun x hx => hb x (by simp [hx])) (by simp at hN; omega)) ?_;refine zh ?_;apply yd;refine X.drawQ [⟨0, 19, iv (dgL n r).2, []⟩, ⟨1, 20, yg (b :: r), []⟩, ⟨2, 21, .ept intE b 0, [1]⟩, ⟨3, 22, iv b, [1, 2]⟩, ⟨4, 23, iv ((dgL n r).2 % b), [1, 2, 3, 0]⟩, ⟨6, 25, yg (dgL n r).1, []⟩, ⟨8, 27, iv (dgL n r).2, []⟩, ⟨9, 28, yg (b :: r), []⟩, ⟨10, 29, .ept intE b 0, [9]⟩, ⟨11, 30, iv b, [9, 10]⟩, ⟨12, 31, iv ((dgL n r).2 / b), [9, 10, 11, 8]⟩] [(5, [1, 2, 3, 0, 4]), (7, [1, 2, 3, 0, 4, 6, 5]), (13, [6, 5, 4, 3, 2, 1, 0, 7]), (14, [11, 10, 9, 8, 7, 6, 5, 4, 3, 2, 1, 0, 13, 12])] (fun j => match j with | 0 => ⟨[(0, iv n), (1, yg (b :: r)), (6, yg (dgL n r).1), (7, iv (dgL n r).2)], []⟩ | 1 => ⟨[(0, iv n), (1, yg (b :: r)), (6, yg (dgL n r).1), (7, iv (dgL n r).2), (24, .own 33)], [(33, .row intE ([(dgL n r).2 % b]) 3 1)]⟩ | 2 => ⟨[(0, iv n), (1, yg (b :: r)), (6, yg (dgL n r).1), (7, iv (dgL n r).2), (26, .own 33)], [(33, .row intE ([(dgL n r).2 % b] ++ (dgL n r).1) 3 1)]⟩ | 3 => ⟨[(0, iv n), (1, yg (b :: r)), (6, yg (dgL n r).1), (7, iv (dgL n r).2), (4, .own 33)], [(33, .row intE ([(dgL n r).2 % b] ++ (dgL n r).1) 3 1)]⟩ | _ => ⟨[(0, iv n), (1, yg (b :: r)), (6, yg (dgL n r).1), (7, iv (dgL n r).2), (4, .own 33), (5, iv ((dgL n r).2 / b))], [(33, .row intE ([(dgL n r).2 % b] ++ (dgL n r).1) 3 1)]⟩) mo (by kernel_rfl) (zbc (yi)) (fun j hj => ?_) (fun j c hc β hβ => ?_) ?_
 ·rcases j with _ | _ | _ | _ | _ | j
  ·exact zn
  ·exact zn
  ·exact zn
  ·exact zn
  ·exact zn
  ·exact absurd (show j + 5 <= 4 from hj) (by omega)
 ·rcases j with _ | _ | _ | _ | j
  ·obtain rfl : (5, [1, 2, 3, 0, 4]) = c := by injection hc
   refine yo rfl (yL (st0 := ⟨[(19, iv (dgL n r).2), (20, yg (b :: r)), (21, .ept intE b 0), (22, iv b), (23, iv ((dgL n r).2 % b)), (25, .ifb (β 6) (yg (dgL n r).1)), (27, .ifb (β 8) (iv (dgL n r).2)), (28, .ifb (β 9) (yg (b :: r))), (29, .ifb (β 10) (.ept intE b 0)), (30, .ifb (β 11) (iv b)), (31, .ifb (β 12) (iv ((dgL n r).2 / b))), (0, iv n), (1, yg (b :: r)), (6, yg (dgL n r).1), (7, iv (dgL n r).2)], []⟩) (yH) ?_);refine yC.imp (yw (yG (k := 33) (enc := intE) (l := [(dgL n r).2 % b]) sl22 ty3 ze3 (by decide) rfl rfl rfl rfl (by decide) (by decide) (fun _ => rfl) rfl) rfl rfl) (yH)
  ·obtain rfl : (7, [1, 2, 3, 0, 4, 6, 5]) = c := by injection hc
   refine yo rfl (yL (st0 := ⟨[(19, iv (dgL n r).2), (20, yg (b :: r)), (21, .ept intE b 0), (22, iv b), (23, iv ((dgL n r).2 % b)), (25, yg (dgL n r).1), (27, .ifb (β 8) (iv (dgL n r).2)), (28, .ifb (β 9) (yg (b :: r))), (29, .ifb (β 10) (.ept intE b 0)), (30, .ifb (β 11) (iv b)), (31, .ifb (β 12) (iv ((dgL n r).2 / b))), (0, iv n), (1, yg (b :: r)), (6, yg (dgL n r).1), (7, iv (dgL n r).2), (24, .own 33)], [(33, .row intE ([(dgL n r).2 % b]) 3 1)]⟩) (yH) ?_);refine yC.imp (za3 rfl rfl rfl SlK.h TiK.h (by decide) (by decide) (fun _ => rfl) (fun _ => rfl) (by first | omega | (simp; done) | (simp; omega) | (simp_all; omega)) rfl) (yH)
  ·obtain rfl : (13, [6, 5, 4, 3, 2, 1, 0, 7]) = c := by injection hc
   refine yo rfl (yL (st0 := ⟨[(19, iv (dgL n r).2), (20, yg (b :: r)), (21, .ept intE b 0), (22, iv b), (23, iv ((dgL n r).2 % b)), (25, yg (dgL n r).1), (27, .ifb (β 8) (iv (dgL n r).2)), (28, .ifb (β 9) (yg (b :: r))), (29, .ifb (β 10) (.ept intE b 0)), (30, .ifb (β 11) (iv b)), (31, .ifb (β 12) (iv ((dgL n r).2 / b))), (0, iv n), (1, yg (b :: r)), (6, yg (dgL n r).1), (7, iv (dgL n r).2), (26, .own 33)], [(33, .row intE ([(dgL n r).2 % b] ++ (dgL n r).1) 3 1)]⟩) (yH) ?_);refine yC.imp (yw (Pur.stepA (zbs rfl)) rfl rfl) (yH)
  ·obtain rfl : (14, [11, 10, 9, 8, 7, 6, 5, 4, 3, 2, 1, 0, 13, 12]) = c := by injection hc
   refine yo rfl (yL (st0 := ⟨[(19, iv (dgL n r).2), (20, yg (b :: r)), (21, .ept intE b 0), (22, iv b), (23, iv ((dgL n r).2 % b)), (25, yg (dgL n r).1), (27, iv (dgL n r).2), (28, yg (b :: r)), (29, .ept intE b 0), (30, iv b), (31, iv ((dgL n r).2 / b)), (0, iv n), (1, yg (b :: r)), (6, yg (dgL n r).1), (7, iv (dgL n r).2), (4, .own 33)], [(33, .row intE ([(dgL n r).2 % b] ++ (dgL n r).1) 3 1)]⟩) (yH) ?_);refine yC.imp (yw (Pur.stepA (zbs rfl)) rfl rfl) (yH)
  ·exact absurd hc (by simp)
 refine X.ret ?_;refine RetQ.imp (Imp.freeze (k := 33) rfl) ?_;refine yx ?_ ?_;all_goals (first | (rw [hD]; done) | (rw [hD]; rfl))
set_option maxHeartbeats 4000000 in
theorem zke (m : Mn) (l : List Sg) (n : Int) (hl : l.length <= 1000) : Fn Tryz.prog 66 [mnA m, sgsA l, iv n] (.tup [yg (iofD m l n), yg (iofM m l n), iv (iofE m l n)]) := by
 have hZ1 := zqj m l;obtain ⟨q1, q2, q3, q4, q5⟩ := hZ1;have q6 := mulB q1 q2 q3 q4;refine Fn.go Tryz.func66 Tryz.ntmps66 (fun g w d => ?_);apply yb;refine yI ?_;iterate 3 refine ya ?_
 apply yj;iterate 2 refine ya ?_
 refine ym (zdh m l hl) ?_;iterate 6 refine ya ?_
 refine ye ?_;apply yd;apply yb;refine yh ?_;refine yl rfl ?_ ?_<;>intro hc1
 ·have hE : ictE m l = iofE m l n := by unfold iofE; rw [if_neg hc1]
  have hD := (zlk (n := n) (by rw [← hE]; exact hc1)).symm;have hM := (zll (n := n) (by rw [← hE]; exact hc1)).symm;apply yb;refine zad ?_;refine X.ret ?_;refine RetQ.imp (yi (ts := [(6, yg []), (7, yg []), (8, iv (ictE m l))]) (hs := [])) ?_;refine RetQ.ret (.many (by decide) (.cons (.tmp rfl (LeV.eq ?_)) (.cons (.tmp rfl (LeV.eq ?_)) (.cons (.tmp rfl (LeV.eq ?_)) .nil))));all_goals (first | exact congrArg yg hD | exact congrArg yg hM | exact congrArg (AV.int .i64) hE)
 apply yf;apply yd;apply yb;iterate 2 refine ya ?_
 refine ExF.at 2 ?_;refine yU ?_;iterate 5 refine ExF.gi ?_
 refine yQ ?_;refine ye ?_;refine yl rfl ?_ ?_<;>intro hc2
 ·have hE : 2 = iofE m l n := by unfold iofE; rw [if_pos hc1, if_pos (by omega)]
  have hD := (zlk (m := m) (l := l) (n := n) (by omega)).symm;have hM := (zll (m := m) (l := l) (n := n) (by omega)).symm;apply yb;refine yu ?_;refine X.ret ?_;refine RetQ.imp (yi (ts := [(6, yg []), (7, yg []), (8, iv 2)]) (hs := [])) ?_;refine RetQ.ret (.many (by decide) (.cons (.tmp rfl (LeV.eq ?_)) (.cons (.tmp rfl (LeV.eq ?_)) (.cons (.tmp rfl (LeV.eq ?_)) .nil))));all_goals (first | exact congrArg yg hD | exact congrArg yg hM | exact congrArg (AV.int .i64) hE)
 have hE : 0 = iofE m l n := by unfold iofE; rw [if_pos hc1, if_neg (by omega)]
 have hp := zlm hE.symm;have hZ2 := zqi hc1;obtain ⟨ha, hb⟩ := hZ2;have hi0 := zfD hc1;have hcp := zbT hi0.2.2.2.1;rw [← hi0.2.2.2.2.1] at hcp;rw [ha, hb] at hp;rw [ha] at hi0;rw [hb] at hcp;have hDot := zkT m l hl (n / icb m l % ica m l);rw [hp.1, hp.2.1] at hDot;have hCol := ziC m l (n % icb m l) hl;rw [hp.2.2.1, hp.2.2.2] at hCol;have hDg := zgj 2 [ica m l, icb m l] n rfl (by omega) (by omega) (fun x hx => by simp at hx; omega) (by decide);rw [zmJ] at hDg;dsimp only at hDg;have hg0 : [n / icb m l % ica m l, n % icb m l][(0 : Int).toNat]? = some (n / icb m l % ica m l) := rfl;have hg1 : [n / icb m l % ica m l, n % icb m l][(1 : Int).toNat]? = some (n % icb m l) := rfl;apply yf;apply yb;iterate 3 refine ya ?_
 refine zi intE [ica m l, icb m l] ?_;refine Ex.imp (Imp.freeze (k := 37) rfl) ?_;refine ym hDg ?_;refine zh ?_;apply yd;refine zI [6,11,41,42,43,44,45,46,47,48,49] [0,0,0,4,12,31,63,127,127,255,1023] mo ?_;iterate 5 refine yk ?_
 refine zJ hDot ?_;iterate 5 refine yk ?_
 refine zf ?_;apply Ex.nil;apply yd;apply yb;refine yh ?_;refine yl rfl ?_ ?_<;>intro hc3
 ·exact absurd rfl hc3
 apply yf;apply yd;refine zI [7,11,53,54,55,56,57,58,59,60,61] [0,0,0,4,12,31,63,127,127,255,1023] mo ?_;iterate 5 refine yk ?_
 refine zJ hCol ?_;iterate 5 refine yk ?_
 refine zf ?_;apply Ex.nil;apply yd;apply yb;refine yh ?_;refine yl rfl ?_ ?_<;>intro hc4
 ·exact absurd rfl hc4
 apply yf;apply yb;refine zh ?_;refine X.ret ?_;refine RetQ.ret (.many (by decide) (.cons (.tmp rfl (LeV.eq ?_)) (.cons (.tmp rfl (LeV.eq ?_)) (.cons (.tmp rfl (LeV.eq ?_)) .nil))));all_goals (first | rfl | exact congrArg (AV.int .i64) hE)
end Go.Rse
namespace Go.Rse
open Go Go.Proofs
attribute [local irreducible] Pur yA yC Ex X Fn Imp LeV LeB FnO It yF
attribute [local irreducible] cntV cntE colN colE ictE ictV ica icb dgL iofE iofD iofM ckD zdL prL mnsD ofD digP
end Go.Rse
namespace Go.Rse
open Go Go.Proofs Go.RowKit
attribute [local irreducible] Pur yA yC Ex X Fn Imp LeV LeB FnO It yF
theorem zhV (m : Mn) (l : List Sg) (ch mi : List Int) : (itmV m l ch mi).length <= l.length := by
 unfold itmV; split
 ·rw [ziG]; exact ziE l _
 ·simp
attribute [local irreducible] itmE itmV ictE ictV iofE iofD iofM zdL ckD prL
end Go.Rse
namespace Go.Rse
open Go Go.Proofs
theorem LeV.agg {cs cs' : List AV} (h : LeL cs cs') : LeV (.agg cs) (.agg cs') := fun I ρ v hv => by
 cases hv with
 | agg _ vs hl hvv =>
  obtain ⟨h1, h2⟩ := h.rvl (vs := vs) ⟨hl, hvv⟩;exact .agg cs' vs h1 h2
section
variable {m : Mn} {l : List Sg}
end
theorem zla {l : List Ite} {n : Nat} {x : Ite} (h : l[n]? = some x) : (l.take n).map (·.Dur) ++ [x.Dur] = (l.take (n + 1)).map (·.Dur) := by
 rw [List.take_add_one, h]; simp
end Go.Rse
namespace Go.Rse
open Go Go.Proofs
end Go.Rse
namespace Go.Rse
open Go Go.Proofs
end Go.Rse
namespace Go.Rse
open Go Go.Proofs
abbrev zoS (l : List Sg) : Prop := ∀ (i : Nat) z, l[i]? = some z -> z.Kind = 3 -> ∃ (j : Nat) (p : Sg), i = j + 1 /\ l[j]? = some p /\ ¬ p.Kind = 3
theorem nxt {l : List Sg} (hD : zoS l) {k : Nat} {s : Sg} (hs : l[k]? = some s) (h3 : ¬ s.Kind = 3) (hn : ntN l k + 1 < ntN l l.length) :
 (∃ t, l[k + 1]? = some t /\ ¬ t.Kind = 3 /\ ntN l (k + 1) = ntN l k + 1) \/ (∃ z t, l[k + 1]? = some z /\ z.Kind = 3 /\ l[k + 2]? = some t /\ ¬ t.Kind = 3 /\ ntN l (k + 2) = ntN l k + 1) := by
 have e := zfy hs h3;have hk : k + 1 < l.length := zn1 (l := l) (by omega);have ht : l[k + 1]? = some l[k + 1] := lgg hk;by_cases h : (l[k + 1]).Kind = 3
 ·have e2 := ze1 ht h;have hk2 : k + 1 + 1 < l.length := zn1 (l := l) (by omega);have ht2 : l[k + 2]? = some l[k + 2] := lgg hk2;refine .inr ⟨_, _, ht, h, ht2, fun h4 => ?_, by rw [show k + 2 = k + 1 + 1 by omega, e2]; omega⟩;obtain ⟨j, p, hj, hp, hp3⟩ := hD _ _ ht2 h4;have : j = k + 1 := by omega
  subst this;rw [ht] at hp; injection hp with hp; rw [hp] at h; exact hp3 h
 ·exact .inl ⟨_, ht, h, e⟩
section
variable {m : Mn} {l : List Sg} {a b d g : List Int} {k : Nat} {s : Sg}
end
end Go.Rse
namespace Go.Rse
open Go Go.Proofs
attribute [local irreducible] Pur yA yC Ex X Fn Imp LeV LeB FnO It yF FnW FnOW
end Go.Rse
namespace Go.Rse
open Go Go.Proofs
attribute [local irreducible] Pur yA yC Ex X Fn Imp LeV LeB FnO It yF FnW FnOW
attribute [local irreducible] stK okJ alK alQ chN chL segV segE unT
end Go.Rse
namespace Go.Rse
open Go Go.RowKit
section
variable {P : Program} {C : Ctx} {st : St} {ty : TypeId}
end
end Go.Rse
namespace Go.Rse
open Go Go.Proofs
attribute [local irreducible] Pur yA yC Ex X Fn Imp LeV LeB FnO It yF FnW FnOW
attribute [local irreducible] stK okJ alK alQ segV segE unT
end Go.Rse
namespace Go.Rse
open Go Go.Proofs
attribute [local irreducible] Pur yA yC Ex X Fn Imp LeV LeB FnO It yF FnW FnOW
attribute [local irreducible] apV apE ckM perfL ckIE ckIX
end Go.Rse
namespace Go.Rse
open Go Go.RowKit
end Go.Rse
namespace Go.Rse
open Go Go.Proofs
attribute [local irreducible] Pur yA yC Ex X Fn Imp LeV LeB FnO It yF FnW FnOW
attribute [local irreducible] apV apE ckM perfL ckIE ckIX
end Go.Rse
namespace Go.Rse
open Go Go.Proofs
attribute [local irreducible] Pur yA yC Ex X Fn Imp LeV LeB FnO It yF FnW FnOW
end Go.Rse
namespace Go.Rse
open Go Go.RowKit
section
variable {P : Program} {C : Ctx} {st : St} {ty : TypeId} {Q : Exit -> St -> Prop}
end
end Go.Rse
namespace Go.Rse
open Go Go.Proofs
attribute [local irreducible] Pur yA yC Ex X Fn Imp LeV LeB FnO It yF FnW FnOW
attribute [local irreducible] apV apE ckM perfL ckIE ckIX
end Go.Rse
namespace Go.Rse
open Go Go.Proofs
attribute [local irreducible] Pur yA yC Ex X Fn Imp LeV LeB FnO It yF FnW FnOW
attribute [local irreducible] ckD zdL prL itmV itmE
end Go.Rse
