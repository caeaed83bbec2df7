/-
  Walks: the program's items.
-/
import Derived.Test.YtbilklnipfabpaaGreatDoorZJLvl16
import Derived.Test.YtbilklnipfabpaaGreatDoorZDot9
import Derived.Test.YtbilklnipfabpaaGreatDoorZJColor3
import Derived.Test.YtbilklnipfabpaaGreatDoorZJKit1
import Derived.Test.YtbilklnipfabpaaGreatDoorZJColor8
import Derived.Test.YtbilklnipfabpaaGreatDoorZLogB
import Derived.Test.YtbilklnipfabpaaGreatDoorZJCmb0
set_option linter.unusedSimpArgs false
set_option linter.unusedVariables false
namespace Go.Rse
open Go Go.Proofs
attribute [local irreducible] Pur yD yE Ex X Fn Imp LeV LeB FnO It yH
attribute [local irreducible] mkC mkA mkE duV duE itK itOf ckD mulV mulE
set_option maxHeartbeats 4000000 in
theorem zh7 (m : Mn) (l : List Sg) (ch mi : List Int) (hl : l.length <= 1000) (hmi : mi.length <= 1000) : Fn Tryz.prog 44 [mnA m, sgsA l, yh ch, yh mi] (.tup [itsA (itmV m l ch mi), iv (itmE m l ch mi)]) := by
 refine Fn.go Tryz.func44 Tryz.ntmps44 (fun g w d => ?_);apply yb;refine yG ?_;refine yg ?_;apply ye;apply yb;iterate 2 refine ya ?_
 refine yq (zcV m l hl) ?_;refine ya ?_;apply yk;refine yg ?_;refine ym rfl ?_ ?_<;>intro hc1
 ·have hE : itmE m l ch mi = ckD m l := by rw [zmy (by rw [zjI hc1]; exact hc1), zjI hc1]
  have hV : itmV m l ch mi = [] := zjJ (by rw [hE]; exact hc1);apply yb;refine yr ?_;refine X.ret ?_;refine yo (yi (ts := [(8, itsA []), (9, iv (ckD m l))]) (hs := [])) ?_;refine yy ?_ ?_;all_goals (first | (rw [hV]; done) | (rw [hE]; done) | (rw [hV]; rfl) | (rw [hE]; rfl))
 apply yf;apply yb;iterate 3 refine ya ?_
 refine yq (ziG m l hl ch) ?_;iterate 6 refine ya ?_
 refine yd ?_;apply ye;apply yb;refine yg ?_;refine ym rfl ?_ ?_<;>intro hc2
 ·have hE : itmE m l ch mi = mkE m l ch := zmy hc2;have hV : itmV m l ch mi = [] := zjJ (by rw [hE]; exact hc2);apply yb;refine yr ?_;refine X.ret ?_;refine yo (yi (ts := [(8, itsA []), (9, iv (mkE m l ch))]) (hs := [])) ?_;refine yy ?_ ?_;all_goals (first | (rw [hV]; done) | (rw [hE]; done) | (rw [hV]; rfl) | (rw [hE]; rfl))
 apply yf;apply yb;iterate 3 refine ya ?_
 refine yq (zhV m l mi hl hmi) ?_;refine zv ?_;apply ye;apply yb;refine yg ?_;refine ym rfl ?_ ?_<;>intro hc3
 ·have hE : itmE m l ch mi = duE m l mi := zmz hc2;have hV : itmV m l ch mi = [] := zjJ (by rw [hE]; exact hc3);apply yb;refine yr ?_;refine X.ret ?_;refine yo (yi (ts := [(8, itsA []), (9, iv (duE m l mi))]) (hs := [])) ?_;refine yy ?_ ?_;all_goals (first | (rw [hV]; done) | (rw [hE]; done) | (rw [hV]; rfl) | (rw [hE]; rfl))
 have hE : itmE m l ch mi = 0 := (zmz hc2).trans hc3;have hV := zh4 hE;apply yf;apply yb;refine yd ?_;iterate 2 apply ye
 refine zm (zg itE 95 12 15 201 rfl rfl) ?_;apply yc;refine yr ?_;apply X.block;have hr0 := zsF l (mkC m l ch) (mkA m l ch) (duV m l mi);refine zw (ι := Nat) (fun (k : Nat) => [(11, yh (mkC m l ch)), (12, zdV (mkA m l ch)), (14, tmsA (duV m l mi)), (15, .own 201), (47, sgsA l), (48, iv l.length), (49, iv (k : Int))]) (fun (k : Nat) => [(201, .row itE (itK l (mkC m l ch) (mkA m l ch) (duV m l mi) k) 95 12)]) (fun (k : Nat) => k <= l.length) (fun (k : Nat) => l.length - k) 0 (fun k hk => ?_);apply yb;refine yd ?_;apply ye;refine ym rfl ?_ ?_<;>intro hc4
 ·obtain ⟨s, hs⟩ : ∃ s, l[k]? = some s := ⟨_, lgg (by omega)⟩;have hs2 : l[(k : Int).toNat]? = some s := by simpa using hs
  have hnt := zfZ l (mkC m l ch) (mkA m l ch) (duV m l mi) k;have hnl := zh0 l k;apply yf;apply ye;apply X.block;apply yb;iterate 3 refine ya ?_
  refine yJ ?_;refine ya ?_;refine yj ?_;apply Ex.nil;apply ye;apply yb;refine yr ?_;refine ym rfl ?_ ?_<;>intro hc5
  ·have hst := zh3 (c := mkC m l ch) (a := mkA m l ch) (d := duV m l mi) hs hc5;apply X.exit;apply yc;refine yg ?_;refine yY (k + 1)
  obtain ⟨x, y, z, hx, hy, hz, hmul, hlt, hm, v1, v8⟩ := zsG hc2 hc3 hs hc5;have hst := zra hs hc5 hx hy hz;have hx2 : (mkC m l ch)[((itK l (mkC m l ch) (mkA m l ch) (duV m l mi) k).length : Int).toNat]? = some x := by rw [hnt]; simpa using hx
  have hy2 : (mkA m l ch)[((itK l (mkC m l ch) (mkA m l ch) (duV m l mi) k).length : Int).toNat]? = some y := by rw [hnt]; simpa using hy
  have hz2 : (duV m l mi)[((itK l (mkC m l ch) (mkA m l ch) (duV m l mi) k).length : Int).toNat]? = some z := by rw [hnt]; simpa using hz
  apply yf;apply yb;refine yr ?_;refine ziC ⟨[(11, yh (mkC m l ch)), (12, zdV (mkA m l ch)), (14, tmsA (duV m l mi)), (15, .own 201), (18, iv ((itK l (mkC m l ch) (mkA m l ch) (duV m l mi) k).length : Int)), (19, .ptr 19 0 0 0), (47, sgsA l), (48, iv l.length), (49, iv (k : Int))], [(201, .row itE (itK l (mkC m l ch) (mkA m l ch) (duV m l mi) k) 95 12), (19, .box [iv k, iv s.Value, .bool (decide (s.Kind = 2)), .bool (decide (s.Kind = 1) && s.Color), .bool false, iv x, iv z.N, iv z.D, iv 0, iv 0, iv 0, iv 0] 95)]⟩ (fun hJ17 => ?_) ?_
  ·refine zC [19,59,60,61,62,63,64,65,66,67,68,69,70,71,72,73,74,75,76,77,78,79,80] [0,0,2,0,8,24,0,64,192,448,960,1984,4032,0,0,24576,57344,0,0,393216,917504,2097151,0,8388607] mo ?_;(iterate 10 refine yl ?_);(iterate 2 refine ChM.gi ?_);(iterate 10 refine yl ?_);refine ChM.step rfl rfl rfl (zaO (k := 19) zc95) rfl ?_;refine zb ?_;refine yj ?_;apply Ex.nil;exact zm yA hJ17
  refine ziC ⟨[(11, yh (mkC m l ch)), (12, zdV (mkA m l ch)), (14, tmsA (duV m l mi)), (15, .own 201), (18, iv ((itK l (mkC m l ch) (mkA m l ch) (duV m l mi) k).length : Int)), (19, .ptr 19 0 0 0), (47, sgsA l), (48, iv l.length), (49, iv (k : Int))], [(201, .row itE (itK l (mkC m l ch) (mkA m l ch) (duV m l mi) k) 95 12), (19, .box [iv k, iv s.Value, .bool (decide (s.Kind = 2)), .bool (decide (s.Kind = 1) && s.Color), .bool false, iv x, iv z.N, iv z.D, iv 0, iv 1, iv 0, iv 1] 95)]⟩ (fun hJ18 => ?_) ?_
  ·apply yc;(iterate 3 refine ya ?_);refine yj ?_;refine ya ?_;refine yj ?_;apply Ex.nil;exact zm yA hJ18
  apply ye;apply X.block;apply ye;apply X.block;apply ye;apply X.block;iterate 2 apply ye
  apply yb;refine zv ?_;refine ym rfl ?_ ?_<;>intro hc6
  ·rw [← zsH hc6] at hst;apply X.exit;apply yb;(iterate 3 refine ya ?_);refine yq (zcq z ⟨3, 2⟩) ?_;(iterate 4 refine ya ?_);refine yj ?_;refine ya ?_;apply yk;refine yg ?_;refine ym rfl ?_ ?_<;>intro hc7
   ·exact absurd hmul hc7
   apply yf;apply yb;refine ya ?_;refine yj ?_;apply Ex.nil;apply X.exit;apply yc;(iterate 2 refine ya ?_);refine yV itE [itL k s true x (mulV z ⟨3, 2⟩)] ?_;refine yj ?_;refine yd ?_;apply yc;refine yg ?_;refine yY (k + 1)
  apply yf;apply ye;apply yb;refine yr ?_;refine ym rfl ?_ ?_<;>intro hc8
  ·apply yf;refine ym rfl ?_ ?_<;>intro hc9
   ·rw [← zmA hc6 (.inl hc8)] at hst;apply X.exit;apply yb;refine ya ?_;refine yj ?_;apply Ex.nil;apply X.exit;apply yc;(iterate 2 refine ya ?_);refine yV itE [itL k s true x z] ?_;refine yj ?_;refine yd ?_;apply yc;refine yg ?_;refine yY (k + 1)
   exact absurd hc8 hc9
  ·apply yb;refine yr ?_;refine ym rfl ?_ ?_<;>intro hc10
   ·apply yf;refine ym rfl ?_ ?_<;>intro hc11
    ·rw [← zmA hc6 (.inr (.inl (by unfold clr; rw [decide_eq_true hc11.1, hc11.2]; rfl)))] at hst;apply X.exit;apply yb;refine ya ?_;refine yj ?_;apply Ex.nil;apply X.exit;apply yc;(iterate 2 refine ya ?_);refine yV itE [itL k s true x z] ?_;refine yj ?_;refine yd ?_;apply yc;refine yg ?_;refine yY (k + 1)
    exact absurd hc11 (fun hc11 => hc11.elim (fun h => h hc10.1) (fun h => by rw [hc10.2] at h; cases h))
   ·apply yc;(iterate 5 refine ya ?_);refine yd ?_;refine ym rfl ?_ ?_<;>intro hc12
    ·rw [← zmA hc6 (.inr (.inr hc12))] at hst;apply X.exit;apply yb;refine ya ?_;refine yj ?_;apply Ex.nil;apply X.exit;apply yc;(iterate 2 refine ya ?_);refine yV itE [itL k s true x z] ?_;refine yj ?_;refine yd ?_;apply yc;refine yg ?_;refine yY (k + 1)
    rw [← zsI hc6 hc8 (by unfold clr; rcases hc10 with h | h <;> simp [h]) hc12] at hst;apply yf;apply X.exit;apply yc;(iterate 2 refine ya ?_);refine yV itE [itL k s false x z] ?_;refine yj ?_;refine yd ?_;apply yc;refine yg ?_;refine yY (k + 1)
 ·have hkl : k = l.length := by omega
  subst hkl;apply X.exit;apply yb;refine yr ?_;refine X.ret ?_;refine yo (Imp.freeze (k := 201) rfl) ?_;refine yy ?_ ?_;all_goals (first | (rw [hV]; done) | (rw [hE]; done) | (rw [hV]; rfl) | (rw [hE]; rfl))
end Go.Rse
namespace Go.Rse
open Go Go.Proofs
attribute [local irreducible] Pur yD yE Ex X Fn Imp LeV LeB FnO It yH
attribute [local irreducible] mnsD zaF ofV ofL ofE ofD cntE cntV ckD
end Go.Rse
namespace Go.Rse
open Go Go.Proofs
attribute [local irreducible] Pur yD yE Ex X Fn Imp LeV LeB FnO It yH
attribute [local irreducible] mkC mkA mkE duV duE itK itOf ckD mulV mulE
end Go.Rse
namespace Go.Rse
open Go Go.Proofs
attribute [local irreducible] Pur yD yE Ex X Fn Imp LeV LeB FnO It yH
def ica (m : Mn) (l : List Sg) : Int := if ictE m l = 0 then cntV m l else 0
def icb (m : Mn) (l : List Sg) : Int := if ictE m l = 0 then colN m l else 0
theorem zkD (m : Mn) (l : List Sg) : 0 <= cntV m l := by
 unfold cntV; split
 ·next h =>
  have := zfV (L := mnsD m l) (n := 1) (fun x hx => zd5 h hx) (by omega) (by omega);split <;> omega
 ·omega
theorem zmD (m : Mn) (l : List Sg) : 0 <= colN m l /\ colN m l <= 64 := by
 unfold colN; split
 ·split
  ·omega
  ·have := zb2 (k := (prL m l).length) (by omega); omega
 ·omega
theorem zrb {m : Mn} {l : List Sg} {e : Int} (h : ictE m l = e) (he : ¬ e = 0) : 0 = ica m l /\ 0 = icb m l := by
 unfold ica icb; rw [if_neg (by rw [h]; exact he), if_neg (by rw [h]; exact he)]; exact ⟨rfl, rfl⟩
theorem zsJ {m : Mn} {l : List Sg} (h : ictE m l = 0) : cntV m l = ica m l /\ colN m l = icb m l := by
 unfold ica icb; rw [if_pos h, if_pos h]; exact ⟨rfl, rfl⟩
theorem zsK (m : Mn) (l : List Sg) : 0 <= ica m l /\ ica m l <= 64 /\ 0 <= icb m l /\ icb m l <= 64 /\ ica m l * icb m l = ictV m l := by
 have h1 := zkD m l;have h2 := zhW (m := m) (l := l);have h3 := zmD m l;unfold ica icb ictV;by_cases h : ictE m l = 0
 ·rw [if_pos h, if_pos h, if_pos h]; exact ⟨h1, h2, h3.1, h3.2, rfl⟩
 ·rw [if_neg h, if_neg h, if_neg h]; exact ⟨by omega, by omega, by omega, by omega, rfl⟩
theorem zoB (n : Int) : dgL n [] = ([], n) := rfl
theorem zmE (n b : Int) (r : List Int) : dgL n (b :: r) = ((dgL n r).2 % b :: (dgL n r).1, (dgL n r).2 / b) := rfl
theorem zoC (n a b : Int) : dgL n [a, b] = ([n / b % a, n % b], n / b / a) := rfl
attribute [local irreducible] cntV cntE colN colE ictE ictV ica icb dgL iofE iofD iofM ckD zd4 twos prL
set_option maxHeartbeats 4000000 in
theorem zdD (m : Mn) (l : List Sg) (hl : l.length <= 1000) : Fn Tryz.prog 108 [mnA m, sgsA l] (.tup [iv (ica m l), iv (icb m l), iv (ictE m l)]) := by
 have q1 := zkD m l;have q2 := zhW (m := m) (l := l);have q3 := zmD m l;have q4 := mulB q1 q2 q3.1 q3.2;refine Fn.go Tryz.func108 Tryz.ntmps108 (fun g w d => ?_);apply yb;refine yG ?_;iterate 3 refine ya ?_
 apply yk;iterate 2 refine ya ?_
 refine yq (ze0 m l hl) ?_;refine zv ?_;apply ye;apply yb;refine yg ?_;refine ym rfl ?_ ?_<;>intro hc1
 ·have hE : cntE m l = ictE m l := by unfold ictE; rw [if_neg hc1]
  have hZ1 := zrb hE.symm hc1;obtain ⟨hA, hB⟩ := hZ1;apply yb;refine zaj ?_;refine X.ret ?_;refine RetQ.ret (.many (by decide) (.cons (.tmp rfl (LeV.eq ?_)) (.cons (.tmp rfl (LeV.eq ?_)) (.cons (.tmp rfl (LeV.eq ?_)) .nil))));all_goals (first | exact congrArg (AV.int .i64) hA | exact congrArg (AV.int .i64) hB | exact congrArg (AV.int .i64) hE)
 apply yf;apply yb;iterate 2 refine ya ?_
 refine yq (zdA m l hl) ?_;refine zv ?_;apply ye;apply yb;refine yg ?_;refine ym rfl ?_ ?_<;>intro hc2
 ·have hE : colE m l = ictE m l := by unfold ictE; rw [if_pos hc1, if_neg hc2]
  have hZ2 := zrb hE.symm hc2;obtain ⟨hA, hB⟩ := hZ2;apply yb;refine zaj ?_;refine X.ret ?_;refine RetQ.ret (.many (by decide) (.cons (.tmp rfl (LeV.eq ?_)) (.cons (.tmp rfl (LeV.eq ?_)) (.cons (.tmp rfl (LeV.eq ?_)) .nil))));all_goals (first | exact congrArg (AV.int .i64) hA | exact congrArg (AV.int .i64) hB | exact congrArg (AV.int .i64) hE)
 apply yf;apply ye;apply yb;refine zaj ?_;refine ym rfl ?_ ?_<;>intro hc3
 ·have hE : 15 = ictE m l := by unfold ictE; rw [if_pos hc1, if_pos hc2, if_pos hc3]
  have hZ3 := zrb hE.symm (by decide);obtain ⟨hA, hB⟩ := hZ3;apply yb;refine yr ?_;refine X.ret ?_;refine RetQ.ret (.many (by decide) (.cons (.tmp rfl (LeV.eq ?_)) (.cons (.tmp rfl (LeV.eq ?_)) (.cons (.tmp rfl (LeV.eq ?_)) .nil))));all_goals (first | exact congrArg (AV.int .i64) hA | exact congrArg (AV.int .i64) hB | exact congrArg (AV.int .i64) hE)
 have hE : 0 = ictE m l := by unfold ictE; rw [if_pos hc1, if_pos hc2, if_neg (by omega)]
 have hZ4 := zsJ hE.symm;obtain ⟨hA, hB⟩ := hZ4;apply yf;apply yb;refine zv ?_;refine X.ret ?_;refine RetQ.ret (.many (by decide) (.cons (.tmp rfl (LeV.eq ?_)) (.cons (.tmp rfl (LeV.eq ?_)) (.cons (.tmp rfl (LeV.eq ?_)) .nil))));all_goals (first | exact congrArg (AV.int .i64) hA | exact congrArg (AV.int .i64) hB | exact congrArg (AV.int .i64) hE)
set_option maxHeartbeats 4000000 in
theorem zh8 (m : Mn) (l : List Sg) (hl : l.length <= 1000) : Fn Tryz.prog 65 [mnA m, sgsA l] (.tup [iv (ictV m l), iv (ictE m l)]) := by
 have hZ1 := zsK m l;obtain ⟨q1, q2, q3, q4, q5⟩ := hZ1;have q6 := mulB q1 q2 q3 q4;refine Fn.go Tryz.func65 Tryz.ntmps65 (fun g w d => ?_);apply yb;refine yG ?_;iterate 2 refine ya ?_
 apply yk;iterate 2 refine ya ?_
 refine yq (zdD m l hl) ?_;iterate 7 refine ya ?_
 apply yk;iterate 5 refine ya ?_
 refine yd ?_;refine X.ret ?_;refine yy ?_ ?_;all_goals (first | rfl | exact congrArg (AV.int .i64) q5)
set_option maxHeartbeats 4000000 in
theorem zg1 (N : Nat) (bs : List Int) (n : Int) (hN : bs.length = N) (h0 : 0 <= n) (h1 : n <= 9223372036854775807) (hb : ∀ x ∈ bs, 1 <= x) (hl : N <= 1000) : Fn Tryz.prog 109 [iv n, yh bs] (.tup [yh (dgL n bs).1, iv (dgL n bs).2]) := by
 induction N using Nat.strongRecOn generalizing bs n
 rename_i N ih;refine Fn.go Tryz.func109 Tryz.ntmps109 (fun g w d => ?_);apply yb;refine yg ?_;apply ye;apply yb;refine yr ?_;refine ym rfl ?_ ?_<;>intro hc1
 ·have hbs : bs = [] := List.length_eq_zero_iff.1 (by omega);subst hbs;have hD := zoB n;apply yb;refine yr ?_;refine X.ret ?_;refine yo (yi (ts := [(4, yh []), (5, iv n)]) (hs := [])) ?_;refine yy ?_ ?_;all_goals (first | (rw [hD]; done) | (rw [hD]; rfl))
 obtain ⟨b, r, rfl⟩ : ∃ b r, bs = b :: r := by
  cases bs with
  | nil => simp at hc1
  | cons b r => exact ⟨b, r, rfl⟩
 have hD := zmE n b r;have hb1 := hb b (by simp);have hZ1 := zmV (l := r) h0 (fun x hx => hb x (by simp [hx]));obtain ⟨hr0, hr1⟩ := hZ1;have hrl := zkL r n;have hNr : r.length + 1 = N := by simpa using hN
 have hg0 : (b :: r)[(0 : Int).toNat]? = some b := rfl;apply yf;apply yb;iterate 2 refine ya ?_
 first
  | refine zaq (zcx rfl rfl rfl sl22 ty3 (by omega) (by omega)) rfl ?_
  | refine zaq (zjm rfl rfl sl22 ty3 (fun _ => rfl) (by omega) (by omega)) rfl ?_
 refine yq (ih r.length (by simp at hN; omega) r n rfl h0 h1 (fun x hx => hb x (by simp [hx])) (by simp at hN; omega)) ?_;refine zv ?_;apply ye;refine X.drawQ [⟨0, 19, iv (dgL n r).2, []⟩, ⟨1, 20, yh (b :: r), []⟩, ⟨2, 21, .ept intE b 0, [1]⟩, ⟨3, 22, iv b, [1, 2]⟩, ⟨4, 23, iv ((dgL n r).2 % b), [1, 2, 3, 0]⟩, ⟨6, 25, yh (dgL n r).1, []⟩, ⟨8, 27, iv (dgL n r).2, []⟩, ⟨9, 28, yh (b :: r), []⟩, ⟨10, 29, .ept intE b 0, [9]⟩, ⟨11, 30, iv b, [9, 10]⟩, ⟨12, 31, iv ((dgL n r).2 / b), [9, 10, 11, 8]⟩] [(5, [1, 2, 3, 0, 4]), (7, [1, 2, 3, 0, 4, 6, 5]), (13, [6, 5, 4, 3, 2, 1, 0, 7]), (14, [11, 10, 9, 8, 7, 6, 5, 4, 3, 2, 1, 0, 13, 12])] (fun j => match j with | 0 => ⟨[(0, iv n), (1, yh (b :: r)), (6, yh (dgL n r).1), (7, iv (dgL n r).2)], []⟩ | 1 => ⟨[(0, iv n), (1, yh (b :: r)), (6, yh (dgL n r).1), (7, iv (dgL n r).2), (24, .own 33)], [(33, .row intE ([(dgL n r).2 % b]) 3 1)]⟩ | 2 => ⟨[(0, iv n), (1, yh (b :: r)), (6, yh (dgL n r).1), (7, iv (dgL n r).2), (26, .own 33)], [(33, .row intE ([(dgL n r).2 % b] ++ (dgL n r).1) 3 1)]⟩ | 3 => ⟨[(0, iv n), (1, yh (b :: r)), (6, yh (dgL n r).1), (7, iv (dgL n r).2), (4, .own 33)], [(33, .row intE ([(dgL n r).2 % b] ++ (dgL n r).1) 3 1)]⟩ | _ => ⟨[(0, iv n), (1, yh (b :: r)), (6, yh (dgL n r).1), (7, iv (dgL n r).2), (4, .own 33), (5, iv ((dgL n r).2 / b))], [(33, .row intE ([(dgL n r).2 % b] ++ (dgL n r).1) 3 1)]⟩) mo (by kernel_rfl) (zbO (yi)) (fun j hj => ?_) (fun j c hc β hβ => ?_) ?_
 ·rcases j with _ | _ | _ | _ | _ | j
  ·exact zM
  ·exact zM
  ·exact zM
  ·exact zM
  ·exact zM
  ·exact absurd (show j + 5 <= 4 from hj) (by omega)
 ·rcases j with _ | _ | _ | _ | j
  ·obtain rfl : (5, [1, 2, 3, 0, 4]) = c := by injection hc
   refine yu rfl (yR (st0 := ⟨[(19, iv (dgL n r).2), (20, yh (b :: r)), (21, .ept intE b 0), (22, iv b), (23, iv ((dgL n r).2 % b)), (25, .ifb (β 6) (yh (dgL n r).1)), (27, .ifb (β 8) (iv (dgL n r).2)), (28, .ifb (β 9) (yh (b :: r))), (29, .ifb (β 10) (.ept intE b 0)), (30, .ifb (β 11) (iv b)), (31, .ifb (β 12) (iv ((dgL n r).2 / b))), (0, iv n), (1, yh (b :: r)), (6, yh (dgL n r).1), (7, iv (dgL n r).2)], []⟩) (yO) ?_);refine yp (yx (yL (k := 33) (enc := intE) (l := [(dgL n r).2 % b]) sl22 ty3 ze3 (by decide) rfl rfl rfl rfl (by decide) (by decide) (fun _ => rfl) rfl) rfl rfl) (yO)
  ·obtain rfl : (7, [1, 2, 3, 0, 4, 6, 5]) = c := by injection hc
   refine yu rfl (yR (st0 := ⟨[(19, iv (dgL n r).2), (20, yh (b :: r)), (21, .ept intE b 0), (22, iv b), (23, iv ((dgL n r).2 % b)), (25, yh (dgL n r).1), (27, .ifb (β 8) (iv (dgL n r).2)), (28, .ifb (β 9) (yh (b :: r))), (29, .ifb (β 10) (.ept intE b 0)), (30, .ifb (β 11) (iv b)), (31, .ifb (β 12) (iv ((dgL n r).2 / b))), (0, iv n), (1, yh (b :: r)), (6, yh (dgL n r).1), (7, iv (dgL n r).2), (24, .own 33)], [(33, .row intE ([(dgL n r).2 % b]) 3 1)]⟩) (yO) ?_);refine yp (zbI rfl rfl rfl SlK.h TiK.h (by decide) (by decide) (fun _ => rfl) (fun _ => rfl) (by first | omega | (simp; done) | (simp; omega) | (simp_all; omega)) rfl) (yO)
  ·obtain rfl : (13, [6, 5, 4, 3, 2, 1, 0, 7]) = c := by injection hc
   refine yu rfl (yR (st0 := ⟨[(19, iv (dgL n r).2), (20, yh (b :: r)), (21, .ept intE b 0), (22, iv b), (23, iv ((dgL n r).2 % b)), (25, yh (dgL n r).1), (27, .ifb (β 8) (iv (dgL n r).2)), (28, .ifb (β 9) (yh (b :: r))), (29, .ifb (β 10) (.ept intE b 0)), (30, .ifb (β 11) (iv b)), (31, .ifb (β 12) (iv ((dgL n r).2 / b))), (0, iv n), (1, yh (b :: r)), (6, yh (dgL n r).1), (7, iv (dgL n r).2), (26, .own 33)], [(33, .row intE ([(dgL n r).2 % b] ++ (dgL n r).1) 3 1)]⟩) (yO) ?_);refine yp (yx (Pur.stepA (za8 rfl)) rfl rfl) (yO)
  ·obtain rfl : (14, [11, 10, 9, 8, 7, 6, 5, 4, 3, 2, 1, 0, 13, 12]) = c := by injection hc
   refine yu rfl (yR (st0 := ⟨[(19, iv (dgL n r).2), (20, yh (b :: r)), (21, .ept intE b 0), (22, iv b), (23, iv ((dgL n r).2 % b)), (25, yh (dgL n r).1), (27, iv (dgL n r).2), (28, yh (b :: r)), (29, .ept intE b 0), (30, iv b), (31, iv ((dgL n r).2 / b)), (0, iv n), (1, yh (b :: r)), (6, yh (dgL n r).1), (7, iv (dgL n r).2), (4, .own 33)], [(33, .row intE ([(dgL n r).2 % b] ++ (dgL n r).1) 3 1)]⟩) (yO) ?_);refine yp (yx (Pur.stepA (za8 rfl)) rfl rfl) (yO)
  ·exact absurd hc (by simp)
 refine X.ret ?_;refine yo (Imp.freeze (k := 33) rfl) ?_;refine yy ?_ ?_;all_goals (first | (rw [hD]; done) | (rw [hD]; rfl))
set_option maxHeartbeats 4000000 in
theorem zlw (m : Mn) (l : List Sg) (n : Int) (hl : l.length <= 1000) : Fn Tryz.prog 66 [mnA m, sgsA l, iv n] (.tup [yh (iofD m l n), yh (iofM m l n), iv (iofE m l n)]) := by
 have hZ1 := zsK m l;obtain ⟨q1, q2, q3, q4, q5⟩ := hZ1;have q6 := mulB q1 q2 q3 q4;refine Fn.go Tryz.func66 Tryz.ntmps66 (fun g w d => ?_);apply yb;refine yG ?_;iterate 3 refine ya ?_
 apply yk;iterate 2 refine ya ?_
 refine yq (zdD m l hl) ?_;iterate 6 refine ya ?_
 refine yd ?_;apply ye;apply yb;refine yg ?_;refine ym rfl ?_ ?_<;>intro hc1
 ·have hE : ictE m l = iofE m l n := by unfold iofE; rw [if_neg hc1]
  have hD := (zmW (n := n) (by rw [← hE]; exact hc1)).symm;have hM := (zmX (n := n) (by rw [← hE]; exact hc1)).symm;apply yb;refine zaj ?_;refine X.ret ?_;refine yo (yi (ts := [(6, yh []), (7, yh []), (8, iv (ictE m l))]) (hs := [])) ?_;refine RetQ.ret (.many (by decide) (.cons (.tmp rfl (LeV.eq ?_)) (.cons (.tmp rfl (LeV.eq ?_)) (.cons (.tmp rfl (LeV.eq ?_)) .nil))));all_goals (first | exact congrArg yh hD | exact congrArg yh hM | exact congrArg (AV.int .i64) hE)
 apply yf;apply ye;apply yb;iterate 2 refine ya ?_
 refine ExF.at 2 ?_;refine yF ?_;iterate 5 refine ExF.gi ?_
 refine yC ?_;refine yd ?_;refine ym rfl ?_ ?_<;>intro hc2
 ·have hE : 2 = iofE m l n := by unfold iofE; rw [if_pos hc1, if_pos (by omega)]
  have hD := (zmW (m := m) (l := l) (n := n) (by omega)).symm;have hM := (zmX (m := m) (l := l) (n := n) (by omega)).symm;apply yb;refine yr ?_;refine X.ret ?_;refine yo (yi (ts := [(6, yh []), (7, yh []), (8, iv 2)]) (hs := [])) ?_;refine RetQ.ret (.many (by decide) (.cons (.tmp rfl (LeV.eq ?_)) (.cons (.tmp rfl (LeV.eq ?_)) (.cons (.tmp rfl (LeV.eq ?_)) .nil))));all_goals (first | exact congrArg yh hD | exact congrArg yh hM | exact congrArg (AV.int .i64) hE)
 have hE : 0 = iofE m l n := by unfold iofE; rw [if_pos hc1, if_neg (by omega)]
 have hp := zmY hE.symm;have hZ2 := zsJ hc1;obtain ⟨ha, hb⟩ := hZ2;have hi0 := zgc hc1;have hcp := zb2 hi0.2.2.2.1;rw [← hi0.2.2.2.2.1] at hcp;rw [ha, hb] at hp;rw [ha] at hi0;rw [hb] at hcp;have hDot := zmf m l hl (n / icb m l % ica m l);rw [hp.1, hp.2.1] at hDot;have hCol := zjF m l (n % icb m l) hl;rw [hp.2.2.1, hp.2.2.2] at hCol;have hDg := zg1 2 [ica m l, icb m l] n rfl (by omega) (by omega) (fun x hx => by simp at hx; omega) (by decide);rw [zoC] at hDg;dsimp only at hDg;have hg0 : [n / icb m l % ica m l, n % icb m l][(0 : Int).toNat]? = some (n / icb m l % ica m l) := rfl;have hg1 : [n / icb m l % ica m l, n % icb m l][(1 : Int).toNat]? = some (n % icb m l) := rfl;apply yf;apply yb;iterate 3 refine ya ?_
 refine yV intE [ica m l, icb m l] ?_;refine zf (Imp.freeze (k := 37) rfl) ?_;refine yq hDg ?_;refine zv ?_;apply ye;refine zC [6,11,41,42,43,44,45,46,47,48,49] [0,0,0,4,12,31,63,127,127,255,1023] mo ?_;iterate 5 refine yl ?_
 refine zD hDot ?_;iterate 5 refine yl ?_
 refine zb ?_;apply Ex.nil;apply ye;apply yb;refine yg ?_;refine ym rfl ?_ ?_<;>intro hc3
 ·exact absurd rfl hc3
 apply yf;apply ye;refine zC [7,11,53,54,55,56,57,58,59,60,61] [0,0,0,4,12,31,63,127,127,255,1023] mo ?_;iterate 5 refine yl ?_
 refine zD hCol ?_;iterate 5 refine yl ?_
 refine zb ?_;apply Ex.nil;apply ye;apply yb;refine yg ?_;refine ym rfl ?_ ?_<;>intro hc4
 ·exact absurd rfl hc4
 apply yf;apply yb;refine zv ?_;refine X.ret ?_;refine RetQ.ret (.many (by decide) (.cons (.tmp rfl (LeV.eq ?_)) (.cons (.tmp rfl (LeV.eq ?_)) (.cons (.tmp rfl (LeV.eq ?_)) .nil))));all_goals (first | rfl | exact congrArg (AV.int .i64) hE)
end Go.Rse
namespace Go.Rse
open Go Go.Proofs
attribute [local irreducible] Pur yD yE Ex X Fn Imp LeV LeB FnO It yH
attribute [local irreducible] cntV cntE colN colE ictE ictV ica icb dgL iofE iofD iofM ckD zd4 twos prL kL mnsD ofD digP
end Go.Rse
namespace Go.Rse
open Go Go.Proofs Go.RowKit
attribute [local irreducible] Pur yD yE Ex X Fn Imp LeV LeB FnO It yH
theorem ziZ (m : Mn) (l : List Sg) (ch mi : List Int) : (itmV m l ch mi).length <= l.length := by
 unfold itmV; split
 ·rw [zfZ]; exact zh0 l _
 ·simp
attribute [local irreducible] itmE itmV ictE ictV iofE iofD iofM zd4 ckD twos prL
end Go.Rse
namespace Go.Rse
open Go Go.Proofs
theorem LeV.agg {cs cs' : List AV} (h : LeL cs cs') : LeV (.agg cs) (.agg cs') := fun I ρ v hv => by
 cases hv with
 | agg _ vs hl hvv =>
  obtain ⟨h1, h2⟩ := h.rvl (vs := vs) ⟨hl, hvv⟩;exact .agg cs' vs h1 h2
section
variable {m : Mn} {l : List Sg}
end
theorem zrc {l : List Ite} {n : Nat} {x : Ite} (h : l[n]? = some x) : (l.take n).map (·.Dur) ++ [x.Dur] = (l.take (n + 1)).map (·.Dur) := by
 rw [List.take_add_one, h]; simp
end Go.Rse
namespace Go.Rse
open Go Go.Proofs
def itP (x : Ite) : Prop := itF x = 0 /\ 1 <= x.Dur.N
def unB (m : Mn) (v : Int) : Bool := decide (5 < v) || (decide ((fullT m v).D = 1) && decide (ckT (fullT m v) = 0) && decide (1 <= (fullT m v).N) && decide (addE (fullT m v) (fullT m v) = 0) && decide (1 <= (addV (fullT m v) (fullT m v)).N))
theorem zoD : zd6 unB = true := by kernel_rfl
theorem zsL {m : Mn} {k : Int} (h : unE m k = 0) : (∃ f : Int, unT m k = ⟨f, 1⟩ /\ 1 <= f) /\ ckT (unT m k) = 0 /\ addE (unT m k) (unT m k) = 0 /\ 1 <= (addV (unT m k) (unT m k)).N := by
 obtain ⟨h1, h2, h3, h4⟩ := ze7 h;have hb := zaU zoD h1 (show 1 <= k + 1 by omega) (show k + 1 <= 8 by omega);unfold unT; rw [if_pos h];unfold unB at hb;rw [decide_eq_false (show ¬ 5 < k + 1 by omega), Bool.false_or] at hb;simp only [Bool.and_eq_true, decide_eq_true_eq] at hb;obtain ⟨⟨⟨⟨a, b⟩, c⟩, d⟩, e⟩ := hb;refine ⟨⟨(fullT m (k + 1)).N, ?_, c⟩, b, d, e⟩;generalize fullT m (k + 1) = t at *
 obtain ⟨x, y⟩ := t;simp only at a;subst a; rfl
theorem zi0 {u : Tm} {x y : Ite} {f : Int} (hu : u = ⟨f, 1⟩) (hc : ckT u = 0) (hx : itP x) (hl : lgQ u x = true) (hs : sameI y x) (hd : y.Dur = subV x.Dur u) (hB : ckT y.Before = 0) (hA : ckT y.After = 0) : itP y := by
 obtain ⟨h1, h2, h3, h4, h5⟩ := zdO hx.1;unfold lgQ at hl;rw [decide_eq_true_iff] at hl;subst hu;obtain ⟨e1, e2, e3, e4⟩ := zf3 h2 hc hl;obtain ⟨s1, s2, s3, s4, s5, s6⟩ := hs;refine ⟨zjL ⟨by rw [s2, s6]; exact h1, by rw [hd]; exact e2, hB, hA, ?_⟩, by rw [hd]; exact e3⟩;unfold itKd at h5 ⊢; rw [s3, s4, s5]; exact h5
theorem zmF {u : Tm} {S : List Tm} {b : Tm} (h : rcQ u S b = true) : ckT (addV b u) = 0 := by
 unfold rcQ at h;simp only [Bool.and_eq_true, decide_eq_true_eq] at h;exact (zkH h.1).2.2
theorem zsM {u : Tm} {x : Ite} {f : Int} {S : List Tm} (hu : u = ⟨f, 1⟩) (hc : ckT u = 0) (hx : itP x) (hl : lgQ u x = true) (hr : rcQ u S x.After = true) : itP (zJ u x) :=
 zi0 hu hc hx hl (zf5 u x) rfl (zdO hx.1).2.2.1 (zmF hr)
theorem zsN {u : Tm} {x : Ite} {f : Int} {S : List Tm} (hu : u = ⟨f, 1⟩) (hc : ckT u = 0) (hx : itP x) (hl : lgQ u x = true) (hr : rcQ u S x.Before = true) : itP (zad u x) :=
 zi0 hu hc hx hl (zf6 u x) rfl (zmF hr) (zdO hx.1).2.2.2.1
theorem zsO {u : Tm} {x : Ite} (ha : addE u u = 0) (hn : 1 <= (addV u u).N) (hx : itP x) (hd : x.Dur = u) : itP (dblI x) := by
 obtain ⟨h1, h2, h3, h4, h5⟩ := zdO hx.1;refine ⟨zjL ⟨h1, ?_, h3, h4, h5⟩, ?_⟩
 ·show ckT (addV x.Dur x.Dur) = 0;rw [hd]; exact (zkH ha).2.2
 ·show 1 <= (addV x.Dur x.Dur).N;rw [hd]; exact hn
theorem zh9 {l : List Ite} {i : Int} (h0 : 0 <= i) (h : i < l.length) : itg l i ∈ l := by
 unfold itg;rw [List.getD_eq_getElem?_getD, lgg (by omega)];exact List.getElem_mem _
theorem zmG {Q : Ite -> Prop} {l : List Ite} {i : Int} {f : Ite -> Ite} (hi : 0 <= i) (hl : i < l.length) (h : ∀ x ∈ l, Q x) (hf : Q (f (itg l i))) : ∀ x ∈ upI l i f, Q x := by
 intro x hx;unfold upI at hx;rcases List.mem_or_eq_of_mem_set hx with h1 | h1
 ·exact h x h1
 ·rw [h1]; exact hf
theorem zkE {m : Mn} {k : Int} {l : List Ite} {M : List Int} (h : apE m k l M = 0) : segE m k l = 0 /\ (segV m k l).length = M.length /\ okJ (unT m k) k (segV m k l) l M M.length = true := by
 unfold apE at h;split at h
 ·split at h
  ·cases h
  ·rename_i h1 h2;refine ⟨h1, Classical.byContradiction fun e => h2 (.inl e), ?_⟩;cases hk : okJ (unT m k) k (segV m k l) l M M.length with
   | true => rfl
   | false => exact absurd (.inr hk) h2
 ·exact absurd h (by assumption)
end Go.Rse
namespace Go.Rse
open Go Go.Proofs
def fuL : List Tm := [⟨1, 8⟩, ⟨1, 4⟩, ⟨1, 2⟩, ⟨1, 1⟩, ⟨2, 1⟩, ⟨3, 1⟩, ⟨4, 1⟩, ⟨6, 1⟩, ⟨9, 1⟩, ⟨8, 1⟩, ⟨12, 1⟩, ⟨18, 1⟩, ⟨27, 1⟩, ⟨16, 1⟩, ⟨24, 1⟩, ⟨36, 1⟩, ⟨54, 1⟩, ⟨81, 1⟩]
def unL : List Tm := [⟨1, 1⟩, ⟨2, 1⟩, ⟨3, 1⟩, ⟨4, 1⟩, ⟨6, 1⟩, ⟨9, 1⟩, ⟨8, 1⟩, ⟨12, 1⟩, ⟨18, 1⟩, ⟨27, 1⟩]
def fuQ (m : Mn) (v : Int) : Bool := decide (fullT m v ∈ fuL) && (decide (v <= 1) || decide (5 < v) || decide (fullT m v ∈ unL))
theorem zoE : zd6 fuQ = true := by kernel_rfl
end Go.Rse
