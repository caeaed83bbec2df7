/-
  Walks: the program's combinations of meanings.
-/
import Derived.Test.YtbilklnipfabpaaGreatDoorPJCmb1
import Derived.Test.YtbilklnipfabpaaGreatDoorPJColor4
import Derived.Test.YtbilklnipfabpaaGreatDoorPLogB
import Derived.Test.YtbilklnipfabpaaGreatDoorPJFull1
import Derived.Test.YtbilklnipfabpaaGreatDoorPJLvl16
import Derived.Test.YtbilklnipfabpaaGreatDoorPLogC
set_option linter.unusedSimpArgs false
set_option linter.unusedVariables false
namespace Go.Rse
open Go Go.Proofs
attribute [local irreducible] Pur yx yz Ex X Fn Imp LeV LeB FnO It yC
def ica (m : Mn) (l : List Sg) : Int := if ictE m l = 0 then cntV m l else 0
def icb (m : Mn) (l : List Sg) : Int := if ictE m l = 0 then colN m l else 0
theorem zkp (m : Mn) (l : List Sg) : 0 <= cntV m l := by
 unfold cntV; split
 ·next h =>
  have := zfZ (L := mnsD m l) (n := 1) (fun x hx => zf0 h hx) (by omega) (by omega);split <;> omega
 ·omega
theorem zmp (m : Mn) (l : List Sg) : 0 <= colN m l /\ colN m l <= 64 := by
 unfold colN; split
 ·split
  ·omega
  ·have := zbX (k := (prL m l).length) (by omega); omega
 ·omega
theorem zqP {m : Mn} {l : List Sg} {e : Int} (h : ictE m l = e) (he : ¬ e = 0) : 0 = ica m l /\ 0 = icb m l := by
 unfold ica icb; rw [if_neg (by rw [h]; exact he), if_neg (by rw [h]; exact he)]; exact ⟨rfl, rfl⟩
theorem zsx {m : Mn} {l : List Sg} (h : ictE m l = 0) : cntV m l = ica m l /\ colN m l = icb m l := by
 unfold ica icb; rw [if_pos h, if_pos h]; exact ⟨rfl, rfl⟩
theorem zsy (m : Mn) (l : List Sg) : 0 <= ica m l /\ ica m l <= 64 /\ 0 <= icb m l /\ icb m l <= 64 /\ ica m l * icb m l = ictV m l := by
 have h1 := zkp m l;have h2 := zhJ (m := m) (l := l);have h3 := zmp m l;unfold ica icb ictV;by_cases h : ictE m l = 0
 ·rw [if_pos h, if_pos h, if_pos h]; exact ⟨h1, h2, h3.1, h3.2, rfl⟩
 ·rw [if_neg h, if_neg h, if_neg h]; exact ⟨by omega, by omega, by omega, by omega, rfl⟩
theorem zog (n : Int) : dgL n [] = ([], n) := rfl
theorem zmq (n b : Int) (r : List Int) : dgL n (b :: r) = ((dgL n r).2 % b :: (dgL n r).1, (dgL n r).2 / b) := rfl
theorem zoh (n a b : Int) : dgL n [a, b] = ([n / b % a, n % b], n / b / a) := rfl
attribute [local irreducible] cntV cntE colN colE ictE ictV ica icb dgL iofE iofD iofM ckD zd3 prL
set_option maxHeartbeats 4000000 in
theorem zdu (m : Mn) (l : List Sg) (hl : l.length <= 1000) : Fn Tryz.prog 108 [mnA m, sgsA l] (.tup [iv (ica m l), iv (icb m l), iv (ictE m l)]) := by
 have q1 := zkp m l;have q2 := zhJ (m := m) (l := l);have q3 := zmp m l;have q4 := mulB q1 q2 q3.1 q3.2;refine Fn.go Tryz.func108 Tryz.ntmps108 (fun g w d => ?_);apply yb;refine yF ?_;iterate 3 refine ya ?_
 apply yj;iterate 2 refine ya ?_
 refine yq (zeX m l hl) ?_;refine ze ?_;apply yd;apply yb;refine yh ?_;refine yk rfl ?_ ?_<;>intro hc1
 ·have hE : cntE m l = ictE m l := by unfold ictE; rw [if_neg hc1]
  have hZ1 := zqP hE.symm hc1;obtain ⟨hA, hB⟩ := hZ1;apply yb;refine zT ?_;refine X.ret ?_;refine RetQ.ret (.many (by decide) (.cons (.tmp rfl (LeV.eq ?_)) (.cons (.tmp rfl (LeV.eq ?_)) (.cons (.tmp rfl (LeV.eq ?_)) .nil))));all_goals (first | exact congrArg (AV.int .i64) hA | exact congrArg (AV.int .i64) hB | exact congrArg (AV.int .i64) hE)
 apply yf;apply yb;iterate 2 refine ya ?_
 refine yq (zdt m l hl) ?_;refine ze ?_;apply yd;apply yb;refine yh ?_;refine yk rfl ?_ ?_<;>intro hc2
 ·have hE : colE m l = ictE m l := by unfold ictE; rw [if_pos hc1, if_neg hc2]
  have hZ2 := zqP hE.symm hc2;obtain ⟨hA, hB⟩ := hZ2;apply yb;refine zT ?_;refine X.ret ?_;refine RetQ.ret (.many (by decide) (.cons (.tmp rfl (LeV.eq ?_)) (.cons (.tmp rfl (LeV.eq ?_)) (.cons (.tmp rfl (LeV.eq ?_)) .nil))));all_goals (first | exact congrArg (AV.int .i64) hA | exact congrArg (AV.int .i64) hB | exact congrArg (AV.int .i64) hE)
 apply yf;apply yd;apply yb;refine zT ?_;refine yk rfl ?_ ?_<;>intro hc3
 ·have hE : 15 = ictE m l := by unfold ictE; rw [if_pos hc1, if_pos hc2, if_pos hc3]
  have hZ3 := zqP hE.symm (by decide);obtain ⟨hA, hB⟩ := hZ3;apply yb;refine yn ?_;refine X.ret ?_;refine RetQ.ret (.many (by decide) (.cons (.tmp rfl (LeV.eq ?_)) (.cons (.tmp rfl (LeV.eq ?_)) (.cons (.tmp rfl (LeV.eq ?_)) .nil))));all_goals (first | exact congrArg (AV.int .i64) hA | exact congrArg (AV.int .i64) hB | exact congrArg (AV.int .i64) hE)
 have hE : 0 = ictE m l := by unfold ictE; rw [if_pos hc1, if_pos hc2, if_neg (by omega)]
 have hZ4 := zsx hE.symm;obtain ⟨hA, hB⟩ := hZ4;apply yf;apply yb;refine ze ?_;refine X.ret ?_;refine RetQ.ret (.many (by decide) (.cons (.tmp rfl (LeV.eq ?_)) (.cons (.tmp rfl (LeV.eq ?_)) (.cons (.tmp rfl (LeV.eq ?_)) .nil))));all_goals (first | exact congrArg (AV.int .i64) hA | exact congrArg (AV.int .i64) hB | exact congrArg (AV.int .i64) hE)
set_option maxHeartbeats 4000000 in
theorem zhS (m : Mn) (l : List Sg) (hl : l.length <= 1000) : Fn Tryz.prog 65 [mnA m, sgsA l] (.tup [iv (ictV m l), iv (ictE m l)]) := by
 have hZ1 := zsy m l;obtain ⟨q1, q2, q3, q4, q5⟩ := hZ1;have q6 := mulB q1 q2 q3 q4;refine Fn.go Tryz.func65 Tryz.ntmps65 (fun g w d => ?_);apply yb;refine yF ?_;iterate 2 refine ya ?_
 apply yj;iterate 2 refine ya ?_
 refine yq (zdu m l hl) ?_;iterate 7 refine ya ?_
 apply yj;iterate 5 refine ya ?_
 refine ye ?_;refine X.ret ?_;refine yu ?_ ?_;all_goals (first | rfl | exact congrArg (AV.int .i64) q5)
set_option maxHeartbeats 4000000 in
theorem zgQ (N : Nat) (bs : List Int) (n : Int) (hN : bs.length = N) (h0 : 0 <= n) (h1 : n <= 9223372036854775807) (hb : ∀ x ∈ bs, 1 <= x) (hl : N <= 1000) : Fn Tryz.prog 109 [iv n, yg bs] (.tup [yg (dgL n bs).1, iv (dgL n bs).2]) := by
 induction N using Nat.strongRecOn generalizing bs n
 rename_i N ih;refine Fn.go Tryz.func109 Tryz.ntmps109 (fun g w d => ?_);apply yb;refine yh ?_;apply yd;apply yb;refine yn ?_;refine yk rfl ?_ ?_<;>intro hc1
 ·have hbs : bs = [] := List.length_eq_zero_iff.1 (by omega);subst hbs;have hD := zog n;apply yb;refine yn ?_;refine X.ret ?_;refine RetQ.imp (yi (ts := [(4, yg []), (5, iv n)]) (hs := [])) ?_;refine yu ?_ ?_;all_goals (first | (rw [hD]; done) | (rw [hD]; rfl))
 obtain ⟨b, r, rfl⟩ : ∃ b r, bs = b :: r := by
  cases bs with
  | nil => simp at hc1
  | cons b r => exact ⟨b, r, rfl⟩
 have hD := zmq n b r;have hb1 := hb b (by simp);have hZ1 := zmG (l := r) h0 (fun x hx => hb x (by simp [hx]));obtain ⟨hr0, hr1⟩ := hZ1;have hrl := zky r n;have hNr : r.length + 1 = N := by simpa using hN
 have hg0 : (b :: r)[(0 : Int).toNat]? = some b := rfl;apply yf;apply yb;iterate 2 refine ya ?_
 first
  | refine zO (zbe rfl rfl rfl sl22 ty3 (by omega) (by omega)) rfl ?_
  | refine zO (zfa rfl rfl sl22 ty3 (fun _ => rfl) (by omega) (by omega)) rfl ?_
 refine yq (ih r.length (by simp at hN; omega) r n rfl h0 h1 (fun x hx => hb x (by simp [hx])) (by simp at hN; omega)) ?_;refine ze ?_;apply yd;refine X.drawQ [⟨0, 19, iv (dgL n r).2, []⟩, ⟨1, 20, yg (b :: r), []⟩, ⟨2, 21, .ept intE b 0, [1]⟩, ⟨3, 22, iv b, [1, 2]⟩, ⟨4, 23, iv ((dgL n r).2 % b), [1, 2, 3, 0]⟩, ⟨6, 25, yg (dgL n r).1, []⟩, ⟨8, 27, iv (dgL n r).2, []⟩, ⟨9, 28, yg (b :: r), []⟩, ⟨10, 29, .ept intE b 0, [9]⟩, ⟨11, 30, iv b, [9, 10]⟩, ⟨12, 31, iv ((dgL n r).2 / b), [9, 10, 11, 8]⟩] [(5, [1, 2, 3, 0, 4]), (7, [1, 2, 3, 0, 4, 6, 5]), (13, [6, 5, 4, 3, 2, 1, 0, 7]), (14, [11, 10, 9, 8, 7, 6, 5, 4, 3, 2, 1, 0, 13, 12])] (fun j => match j with | 0 => ⟨[(0, iv n), (1, yg (b :: r)), (6, yg (dgL n r).1), (7, iv (dgL n r).2)], []⟩ | 1 => ⟨[(0, iv n), (1, yg (b :: r)), (6, yg (dgL n r).1), (7, iv (dgL n r).2), (24, .own 33)], [(33, .row intE ([(dgL n r).2 % b]) 3 1)]⟩ | 2 => ⟨[(0, iv n), (1, yg (b :: r)), (6, yg (dgL n r).1), (7, iv (dgL n r).2), (26, .own 33)], [(33, .row intE ([(dgL n r).2 % b] ++ (dgL n r).1) 3 1)]⟩ | 3 => ⟨[(0, iv n), (1, yg (b :: r)), (6, yg (dgL n r).1), (7, iv (dgL n r).2), (4, .own 33)], [(33, .row intE ([(dgL n r).2 % b] ++ (dgL n r).1) 3 1)]⟩ | _ => ⟨[(0, iv n), (1, yg (b :: r)), (6, yg (dgL n r).1), (7, iv (dgL n r).2), (4, .own 33), (5, iv ((dgL n r).2 / b))], [(33, .row intE ([(dgL n r).2 % b] ++ (dgL n r).1) 3 1)]⟩) mo (by kernel_rfl) (zbf (yi)) (fun j hj => ?_) (fun j c hc β hβ => ?_) ?_
 ·rcases j with _ | _ | _ | _ | _ | j
  ·exact zj
  ·exact zj
  ·exact zj
  ·exact zj
  ·exact zj
  ·exact absurd (show j + 5 <= 4 from hj) (by omega)
 ·rcases j with _ | _ | _ | _ | j
  ·obtain rfl : (5, [1, 2, 3, 0, 4]) = c := by injection hc
   refine yo rfl (yK (st0 := ⟨[(19, iv (dgL n r).2), (20, yg (b :: r)), (21, .ept intE b 0), (22, iv b), (23, iv ((dgL n r).2 % b)), (25, .ifb (β 6) (yg (dgL n r).1)), (27, .ifb (β 8) (iv (dgL n r).2)), (28, .ifb (β 9) (yg (b :: r))), (29, .ifb (β 10) (.ept intE b 0)), (30, .ifb (β 11) (iv b)), (31, .ifb (β 12) (iv ((dgL n r).2 / b))), (0, iv n), (1, yg (b :: r)), (6, yg (dgL n r).1), (7, iv (dgL n r).2)], []⟩) (yG) ?_);refine yz.imp (yr (yE (k := 33) (enc := intE) (l := [(dgL n r).2 % b]) sl22 ty3 ze3 (by decide) rfl rfl rfl rfl (by decide) (by decide) (fun _ => rfl) rfl) rfl rfl) (yG)
  ·obtain rfl : (7, [1, 2, 3, 0, 4, 6, 5]) = c := by injection hc
   refine yo rfl (yK (st0 := ⟨[(19, iv (dgL n r).2), (20, yg (b :: r)), (21, .ept intE b 0), (22, iv b), (23, iv ((dgL n r).2 % b)), (25, yg (dgL n r).1), (27, .ifb (β 8) (iv (dgL n r).2)), (28, .ifb (β 9) (yg (b :: r))), (29, .ifb (β 10) (.ept intE b 0)), (30, .ifb (β 11) (iv b)), (31, .ifb (β 12) (iv ((dgL n r).2 / b))), (0, iv n), (1, yg (b :: r)), (6, yg (dgL n r).1), (7, iv (dgL n r).2), (24, .own 33)], [(33, .row intE ([(dgL n r).2 % b]) 3 1)]⟩) (yG) ?_);refine yz.imp (za4 rfl rfl rfl SlK.h TiK.h (by decide) (by decide) (fun _ => rfl) (fun _ => rfl) (by first | omega | (simp; done) | (simp; omega) | (simp_all; omega)) rfl) (yG)
  ·obtain rfl : (13, [6, 5, 4, 3, 2, 1, 0, 7]) = c := by injection hc
   refine yo rfl (yK (st0 := ⟨[(19, iv (dgL n r).2), (20, yg (b :: r)), (21, .ept intE b 0), (22, iv b), (23, iv ((dgL n r).2 % b)), (25, yg (dgL n r).1), (27, .ifb (β 8) (iv (dgL n r).2)), (28, .ifb (β 9) (yg (b :: r))), (29, .ifb (β 10) (.ept intE b 0)), (30, .ifb (β 11) (iv b)), (31, .ifb (β 12) (iv ((dgL n r).2 / b))), (0, iv n), (1, yg (b :: r)), (6, yg (dgL n r).1), (7, iv (dgL n r).2), (26, .own 33)], [(33, .row intE ([(dgL n r).2 % b] ++ (dgL n r).1) 3 1)]⟩) (yG) ?_);refine yz.imp (yr (Pur.stepA (zbu rfl)) rfl rfl) (yG)
  ·obtain rfl : (14, [11, 10, 9, 8, 7, 6, 5, 4, 3, 2, 1, 0, 13, 12]) = c := by injection hc
   refine yo rfl (yK (st0 := ⟨[(19, iv (dgL n r).2), (20, yg (b :: r)), (21, .ept intE b 0), (22, iv b), (23, iv ((dgL n r).2 % b)), (25, yg (dgL n r).1), (27, iv (dgL n r).2), (28, yg (b :: r)), (29, .ept intE b 0), (30, iv b), (31, iv ((dgL n r).2 / b)), (0, iv n), (1, yg (b :: r)), (6, yg (dgL n r).1), (7, iv (dgL n r).2), (4, .own 33)], [(33, .row intE ([(dgL n r).2 % b] ++ (dgL n r).1) 3 1)]⟩) (yG) ?_);refine yz.imp (yr (Pur.stepA (zbu rfl)) rfl rfl) (yG)
  ·exact absurd hc (by simp)
 refine X.ret ?_;refine RetQ.imp (Imp.freeze (k := 33) rfl) ?_;refine yu ?_ ?_;all_goals (first | (rw [hD]; done) | (rw [hD]; rfl))
set_option maxHeartbeats 4000000 in
theorem zlo (m : Mn) (l : List Sg) (n : Int) (hl : l.length <= 1000) : Fn Tryz.prog 66 [mnA m, sgsA l, iv n] (.tup [yg (iofD m l n), yg (iofM m l n), iv (iofE m l n)]) := by
 have hZ1 := zsy m l;obtain ⟨q1, q2, q3, q4, q5⟩ := hZ1;have q6 := mulB q1 q2 q3 q4;refine Fn.go Tryz.func66 Tryz.ntmps66 (fun g w d => ?_);apply yb;refine yF ?_;iterate 3 refine ya ?_
 apply yj;iterate 2 refine ya ?_
 refine yq (zdu m l hl) ?_;iterate 6 refine ya ?_
 refine ye ?_;apply yd;apply yb;refine yh ?_;refine yk rfl ?_ ?_<;>intro hc1
 ·have hE : ictE m l = iofE m l n := by unfold iofE; rw [if_neg hc1]
  have hD := (zmH (n := n) (by rw [← hE]; exact hc1)).symm;have hM := (zmI (n := n) (by rw [← hE]; exact hc1)).symm;apply yb;refine zT ?_;refine X.ret ?_;refine RetQ.imp (yi (ts := [(6, yg []), (7, yg []), (8, iv (ictE m l))]) (hs := [])) ?_;refine RetQ.ret (.many (by decide) (.cons (.tmp rfl (LeV.eq ?_)) (.cons (.tmp rfl (LeV.eq ?_)) (.cons (.tmp rfl (LeV.eq ?_)) .nil))));all_goals (first | exact congrArg yg hD | exact congrArg yg hM | exact congrArg (AV.int .i64) hE)
 apply yf;apply yd;apply yb;iterate 2 refine ya ?_
 refine ExF.at 2 ?_;refine yI ?_;iterate 5 refine ExF.gi ?_
 refine yA ?_;refine ye ?_;refine yk rfl ?_ ?_<;>intro hc2
 ·have hE : 2 = iofE m l n := by unfold iofE; rw [if_pos hc1, if_pos (by omega)]
  have hD := (zmH (m := m) (l := l) (n := n) (by omega)).symm;have hM := (zmI (m := m) (l := l) (n := n) (by omega)).symm;apply yb;refine yn ?_;refine X.ret ?_;refine RetQ.imp (yi (ts := [(6, yg []), (7, yg []), (8, iv 2)]) (hs := [])) ?_;refine RetQ.ret (.many (by decide) (.cons (.tmp rfl (LeV.eq ?_)) (.cons (.tmp rfl (LeV.eq ?_)) (.cons (.tmp rfl (LeV.eq ?_)) .nil))));all_goals (first | exact congrArg yg hD | exact congrArg yg hM | exact congrArg (AV.int .i64) hE)
 have hE : 0 = iofE m l n := by unfold iofE; rw [if_pos hc1, if_neg (by omega)]
 have hp := zmJ hE.symm;have hZ2 := zsx hc1;obtain ⟨ha, hb⟩ := hZ2;have hi0 := zgc hc1;have hcp := zbX hi0.2.2.2.1;rw [← hi0.2.2.2.2.1] at hcp;rw [ha, hb] at hp;rw [ha] at hi0;rw [hb] at hcp;have hDot := zma m l hl (n / icb m l % ica m l);rw [hp.1, hp.2.1] at hDot;have hCol := zjw m l (n % icb m l) hl;rw [hp.2.2.1, hp.2.2.2] at hCol;have hDg := zgQ 2 [ica m l, icb m l] n rfl (by omega) (by omega) (fun x hx => by simp at hx; omega) (by decide);rw [zoh] at hDg;dsimp only at hDg;have hg0 : [n / icb m l % ica m l, n % icb m l][(0 : Int).toNat]? = some (n / icb m l % ica m l) := rfl;have hg1 : [n / icb m l % ica m l, n % icb m l][(1 : Int).toNat]? = some (n % icb m l) := rfl;apply yf;apply yb;iterate 3 refine ya ?_
 refine y2 intE [ica m l, icb m l] ?_;refine Ex.imp (Imp.freeze (k := 37) rfl) ?_;refine yq hDg ?_;refine ze ?_;apply yd;refine zy [6,11,41,42,43,44,45,46,47,48,49] [0,0,0,4,12,31,63,127,127,255,1023] mo ?_;iterate 5 refine yl ?_
 refine zz hDot ?_;iterate 5 refine yl ?_
 refine y7 ?_;apply Ex.nil;apply yd;apply yb;refine yh ?_;refine yk rfl ?_ ?_<;>intro hc3
 ·exact absurd rfl hc3
 apply yf;apply yd;refine zy [7,11,53,54,55,56,57,58,59,60,61] [0,0,0,4,12,31,63,127,127,255,1023] mo ?_;iterate 5 refine yl ?_
 refine zz hCol ?_;iterate 5 refine yl ?_
 refine y7 ?_;apply Ex.nil;apply yd;apply yb;refine yh ?_;refine yk rfl ?_ ?_<;>intro hc4
 ·exact absurd rfl hc4
 apply yf;apply yb;refine ze ?_;refine X.ret ?_;refine RetQ.ret (.many (by decide) (.cons (.tmp rfl (LeV.eq ?_)) (.cons (.tmp rfl (LeV.eq ?_)) (.cons (.tmp rfl (LeV.eq ?_)) .nil))));all_goals (first | rfl | exact congrArg (AV.int .i64) hE)
end Go.Rse
namespace Go.Rse
open Go Go.Proofs
attribute [local irreducible] Pur yx yz Ex X Fn Imp LeV LeB FnO It yC
attribute [local irreducible] cntV cntE colN colE ictE ictV ica icb dgL iofE iofD iofM ckD zd3 prL mnsD ofD digP
end Go.Rse
namespace Go.Rse
open Go Go.Proofs Go.RowKit
attribute [local irreducible] Pur yx yz Ex X Fn Imp LeV LeB FnO It yC
theorem zf5 (m : Mn) (l : List Sg) (ch mi : List Int) : (itmV m l ch mi).length <= l.length := by
 unfold itmV; split
 ·rw [zf1]; exact zjy l _
 ·simp
attribute [local irreducible] itmE itmV ictE ictV iofE iofD iofM zd3 ckD prL
end Go.Rse
namespace Go.Rse
open Go Go.Proofs
theorem LeV.agg {cs cs' : List AV} (h : LeL cs cs') : LeV (.agg cs) (.agg cs') := fun I ρ v hv => by
 cases hv with
 | agg _ vs hl hvv =>
  obtain ⟨h1, h2⟩ := h.rvl (vs := vs) ⟨hl, hvv⟩;exact .agg cs' vs h1 h2
section
variable {m : Mn} {l : List Sg}
end
theorem zmr {l : List Ite} {n : Nat} {x : Ite} (h : l[n]? = some x) : (l.take n).map (·.Dur) ++ [x.Dur] = (l.take (n + 1)).map (·.Dur) := by
 rw [List.take_add_one, h]; simp
end Go.Rse
namespace Go.Rse
open Go Go.Proofs
def itP (x : Ite) : Prop := itF x = 0 /\ 1 <= x.Dur.N
def unB (m : Mn) (v : Int) : Bool := decide (5 < v) || (decide ((fullT m v).D = 1) && decide (ckT (fullT m v) = 0) && decide (1 <= (fullT m v).N) && decide (addE (fullT m v) (fullT m v) = 0) && decide (1 <= (addV (fullT m v) (fullT m v)).N))
theorem zoi : zeY unB = true := by kernel_rfl
theorem zsz {m : Mn} {k : Int} (h : unE m k = 0) : (∃ f : Int, unT m k = ⟨f, 1⟩ /\ 1 <= f) /\ ckT (unT m k) = 0 /\ addE (unT m k) (unT m k) = 0 /\ 1 <= (addV (unT m k) (unT m k)).N := by
 obtain ⟨h1, h2, h3, h4⟩ := ze0 h;have hb := zbh zoi h1 (show 1 <= k + 1 by omega) (show k + 1 <= 8 by omega);unfold unT; rw [if_pos h];unfold unB at hb;rw [decide_eq_false (show ¬ 5 < k + 1 by omega), Bool.false_or] at hb;simp only [Bool.and_eq_true, decide_eq_true_eq] at hb;obtain ⟨⟨⟨⟨a, b⟩, c⟩, d⟩, e⟩ := hb;refine ⟨⟨(fullT m (k + 1)).N, ?_, c⟩, b, d, e⟩;generalize fullT m (k + 1) = t at *
 obtain ⟨x, y⟩ := t;simp only at a;subst a; rfl
theorem ziK {u : Tm} {x y : Ite} {f : Int} (hu : u = ⟨f, 1⟩) (hc : ckT u = 0) (hx : itP x) (hl : lgQ u x = true) (hs : sameI y x) (hd : y.Dur = subV x.Dur u) (hB : ckT y.Before = 0) (hA : ckT y.After = 0) : itP y := by
 obtain ⟨h1, h2, h3, h4, h5⟩ := zdD hx.1;unfold lgQ at hl;rw [decide_eq_true_iff] at hl;subst hu;obtain ⟨e1, e2, e3, e4⟩ := zf7 h2 hc hl;obtain ⟨s1, s2, s3, s4, s5, s6⟩ := hs;refine ⟨zjE ⟨by rw [s2, s6]; exact h1, by rw [hd]; exact e2, hB, hA, ?_⟩, by rw [hd]; exact e3⟩;unfold itKd at h5 ⊢; rw [s3, s4, s5]; exact h5
theorem zms {u : Tm} {S : List Tm} {b : Tm} (h : rcQ u S b = true) : ckT (addV b u) = 0 := by
 unfold rcQ at h;simp only [Bool.and_eq_true, decide_eq_true_eq] at h;exact (zkr h.1).2.2
theorem zsA {u : Tm} {x : Ite} {f : Int} {S : List Tm} (hu : u = ⟨f, 1⟩) (hc : ckT u = 0) (hx : itP x) (hl : lgQ u x = true) (hr : rcQ u S x.After = true) : itP (zG u x) :=
 ziK hu hc hx hl (zf9 u x) rfl (zdD hx.1).2.2.1 (zms hr)
theorem zsB {u : Tm} {x : Ite} {f : Int} {S : List Tm} (hu : u = ⟨f, 1⟩) (hc : ckT u = 0) (hx : itP x) (hl : lgQ u x = true) (hr : rcQ u S x.Before = true) : itP (zaa u x) :=
 ziK hu hc hx hl (zga u x) rfl (zms hr) (zdD hx.1).2.2.2.1
theorem zsC {u : Tm} {x : Ite} (ha : addE u u = 0) (hn : 1 <= (addV u u).N) (hx : itP x) (hd : x.Dur = u) : itP (dblI x) := by
 obtain ⟨h1, h2, h3, h4, h5⟩ := zdD hx.1;refine ⟨zjE ⟨h1, ?_, h3, h4, h5⟩, ?_⟩
 ·show ckT (addV x.Dur x.Dur) = 0;rw [hd]; exact (zkr ha).2.2
 ·show 1 <= (addV x.Dur x.Dur).N;rw [hd]; exact hn
theorem zhT {l : List Ite} {i : Int} (h0 : 0 <= i) (h : i < l.length) : itg l i ∈ l := by
 unfold itg;rw [List.getD_eq_getElem?_getD, lgg (by omega)];exact List.getElem_mem _
theorem zmt {Q : Ite -> Prop} {l : List Ite} {i : Int} {f : Ite -> Ite} (hi : 0 <= i) (hl : i < l.length) (h : ∀ x ∈ l, Q x) (hf : Q (f (itg l i))) : ∀ x ∈ upI l i f, Q x := by
 intro x hx;unfold upI at hx;rcases List.mem_or_eq_of_mem_set hx with h1 | h1
 ·exact h x h1
 ·rw [h1]; exact hf
theorem zmu {m : Mn} {k : Int} {l : List Ite} {M : List Int} (h : apE m k l M = 0) : segE m k l = 0 /\ (segV m k l).length = M.length /\ okJ (unT m k) k (segV m k l) l M M.length = true := by
 unfold apE at h;split at h
 ·split at h
  ·cases h
  ·rename_i h1 h2;refine ⟨h1, Classical.byContradiction fun e => h2 (.inl e), ?_⟩;cases hk : okJ (unT m k) k (segV m k l) l M M.length with
   | true => rfl
   | false => exact absurd (.inr hk) h2
 ·exact absurd h (by assumption)
end Go.Rse
namespace Go.Rse
open Go Go.Proofs
def fuL : List Tm := [⟨1, 8⟩, ⟨1, 4⟩, ⟨1, 2⟩, ⟨1, 1⟩, ⟨2, 1⟩, ⟨3, 1⟩, ⟨4, 1⟩, ⟨6, 1⟩, ⟨9, 1⟩, ⟨8, 1⟩, ⟨12, 1⟩, ⟨18, 1⟩, ⟨27, 1⟩, ⟨16, 1⟩, ⟨24, 1⟩, ⟨36, 1⟩, ⟨54, 1⟩, ⟨81, 1⟩]
def unL : List Tm := [⟨1, 1⟩, ⟨2, 1⟩, ⟨3, 1⟩, ⟨4, 1⟩, ⟨6, 1⟩, ⟨9, 1⟩, ⟨8, 1⟩, ⟨12, 1⟩, ⟨18, 1⟩, ⟨27, 1⟩]
def fuQ (m : Mn) (v : Int) : Bool := decide (fullT m v ∈ fuL) && (decide (v <= 1) || decide (5 < v) || decide (fullT m v ∈ unL))
theorem zoj : zeY fuQ = true := by kernel_rfl
end Go.Rse
namespace Go.Rse
open Go Go.Proofs
theorem zqQ {l : List Sg} {k j : Nat} {s t : Sg} (hs : l[k]? = some s) (h : ¬ s.Kind = 3) (ht : l[j]? = some t) (h' : ¬ t.Kind = 3) (e : ntN l k = ntN l j) : k = j := by
 rcases Nat.lt_trichotomy k j with h1 | h1 | h1
 ·have := zdi hs h h1; omega
 ·exact h1
 ·have := zdi ht h' h1; omega
def iTM (m : Mn) (l : List Sg) (ch mi : List Int) (k : Nat) (s : Sg) : Ite := itOf k s (zJ ch l l.length k).1 (zJ ch l l.length k).2 ((mget (k : Int) (duM m l mi)).getD (bsT m s))
abbrev zeG (l : List Sg) : Prop := ∀ (i : Nat) z, l[i]? = some z -> z.Kind = 3 -> ∃ (j : Nat) (p : Sg), i = j + 1 /\ l[j]? = some p /\ ¬ p.Kind = 3
theorem itm_len {m : Mn} {l : List Sg} {ch mi : List Int} (h1 : mkE m l ch = 0) (h2 : duE m l mi = 0) : (itmV m l ch mi).length = ntN l l.length := by
 rw [zhP (by unfold itmE; rw [if_pos h1, h2]), zf1]
theorem zqR {m : Mn} {l : List Sg} {ch mi : List Int} (h1 : mkE m l ch = 0) (h2 : duE m l mi = 0) (hD : zeG l) {k : Nat} {s : Sg} (hs : l[k]? = some s) (h3 : ¬ s.Kind = 3) : (itmV m l ch mi)[ntN l k]? = some (iTM m l ch mi k s) := by
 have hk := (List.getElem?_eq_some_iff.1 hs).1;have hlt := zdi hs h3 hk;obtain ⟨x, hx⟩ : ∃ x, (itmV m l ch mi)[ntN l k]? = some x := ⟨_, lgg (by rw [itm_len h1 h2]; exact hlt)⟩;have hx' := hx;rw [zhP (by unfold itmE; rw [if_pos h1, h2])] at hx;obtain ⟨j, t, hj, ht, h4, hn, rfl⟩ := zgd l.length hx;obtain rfl := zqQ ht h4 hs h3 hn;rw [hs] at ht; injection ht with ht; subst ht;rw [hx']; unfold iTM;have hat := zmK (ch := ch) hD l.length j s hk hs h3;have hc : (mkC m l ch).getD (ntN l j) 0 = (zJ ch l l.length j).1 := zbC (by unfold mkC; rw [if_pos h1]; exact hat.1);have ha : (mkA m l ch).getD (ntN l j) false = (zJ ch l l.length j).2 := zbC (by unfold mkA; rw [if_pos h1]; exact hat.2);have hd : (duV m l mi).getD (ntN l j) ⟨0, 0⟩ = (mget (j : Int) (duM m l mi)).getD (bsT m s) := zbC (by unfold duV; rw [if_pos h2]; exact zhN hs h3 l.length hk);rw [hc, ha, hd]
theorem zqS {m : Mn} {l : List Sg} {mi : List Int} (h2 : duE m l mi = 0) : ckD m l = 0 /\ mi.length = (zu m l l.length).length /\ mnOk mi = true := by
 unfold duE at h2;split at h2
 ·rename_i hc;split at h2
  ·rename_i h; exact ⟨hc, by rw [h.1]; unfold prL zR; rw [if_pos hc], h.2⟩
  ·cases h2
 ·rename_i hc; exact absurd h2 hc
theorem zsD {m : Mn} {l : List Sg} (hc : ckD m l = 0) : prL m l = zu m l l.length := by unfold prL zR; rw [if_pos hc]
theorem nxt {l : List Sg} (hD : zeG l) {k : Nat} {s : Sg} (hs : l[k]? = some s) (h3 : ¬ s.Kind = 3) (hn : ntN l k + 1 < ntN l l.length) :
 (∃ t, l[k + 1]? = some t /\ ¬ t.Kind = 3 /\ ntN l (k + 1) = ntN l k + 1) \/ (∃ z t, l[k + 1]? = some z /\ z.Kind = 3 /\ l[k + 2]? = some t /\ ¬ t.Kind = 3 /\ ntN l (k + 2) = ntN l k + 1) := by
 have e := zdC hs h3;have hk : k + 1 < l.length := zpL (l := l) (by omega);have ht : l[k + 1]? = some l[k + 1] := lgg hk;by_cases h : (l[k + 1]).Kind = 3
 ·have e2 := zft ht h;have hk2 : k + 1 + 1 < l.length := zpL (l := l) (by omega);have ht2 : l[k + 2]? = some l[k + 2] := lgg hk2;refine .inr ⟨_, _, ht, h, ht2, fun h4 => ?_, by rw [show k + 2 = k + 1 + 1 by omega, e2]; omega⟩;obtain ⟨j, p, hj, hp, hp3⟩ := hD _ _ ht2 h4;have : j = k + 1 := by omega
  subst this;rw [ht] at hp; injection hp with hp; rw [hp] at h; exact hp3 h
 ·exact .inl ⟨_, ht, h, e⟩
theorem zmv {m : Mn} {l : List Sg} {ch mi : List Int} (h : itmE m l ch mi = 0) : mkE m l ch = 0 /\ duE m l mi = 0 := by
 unfold itmE at h;split at h
 ·exact ⟨by assumption, h⟩
 ·exact absurd h (by assumption)
section
variable {m : Mn} {l : List Sg} {a b d g : List Int} {k : Nat} {s : Sg}
end
end Go.Rse
namespace Go.Rse
open Go Go.Proofs
attribute [local irreducible] Pur yx yz Ex X Fn Imp LeV LeB FnO It yC FnW FnOW
end Go.Rse
namespace Go.Rse
open Go Go.Proofs
attribute [local irreducible] Pur yx yz Ex X Fn Imp LeV LeB FnO It yC FnW FnOW
attribute [local irreducible] stK okJ alK alQ chN chL segV segE unT
end Go.Rse
namespace Go.Rse
open Go Go.RowKit
section
variable {P : Program} {C : Ctx} {st : St} {ty : TypeId}
end
end Go.Rse
namespace Go.Rse
open Go Go.Proofs
attribute [local irreducible] Pur yx yz Ex X Fn Imp LeV LeB FnO It yC FnW FnOW
attribute [local irreducible] stK okJ alK alQ segV segE unT
end Go.Rse
namespace Go.Rse
open Go Go.Proofs
attribute [local irreducible] Pur yx yz Ex X Fn Imp LeV LeB FnO It yC FnW FnOW
attribute [local irreducible] apV apE ckM perfL ckIE ckIX
end Go.Rse
namespace Go.Rse
open Go Go.RowKit
end Go.Rse
namespace Go.Rse
open Go Go.Proofs
attribute [local irreducible] Pur yx yz Ex X Fn Imp LeV LeB FnO It yC FnW FnOW
attribute [local irreducible] apV apE ckM perfL ckIE ckIX
end Go.Rse
namespace Go.Rse
open Go Go.Proofs
attribute [local irreducible] Pur yx yz Ex X Fn Imp LeV LeB FnO It yC FnW FnOW
end Go.Rse
namespace Go.Rse
open Go Go.RowKit
section
variable {P : Program} {C : Ctx} {st : St} {ty : TypeId} {Q : Exit -> St -> Prop}
end
end Go.Rse
namespace Go.Rse
open Go Go.Proofs
attribute [local irreducible] Pur yx yz Ex X Fn Imp LeV LeB FnO It yC FnW FnOW
attribute [local irreducible] apV apE ckM perfL ckIE ckIX
end Go.Rse
namespace Go.Rse
open Go Go.Proofs
attribute [local irreducible] Pur yx yz Ex X Fn Imp LeV LeB FnO It yC FnW FnOW
attribute [local irreducible] ckD zd3 prL itmV itmE
end Go.Rse
namespace Go.Rse
open Go Go.Proofs
attribute [local irreducible] Pur yx yz Ex X Fn Imp LeV LeB FnO It yC FnW FnOW
end Go.Rse
