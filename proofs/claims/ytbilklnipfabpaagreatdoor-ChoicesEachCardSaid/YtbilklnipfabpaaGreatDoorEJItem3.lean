/-
  Walks: the program's combinations of meanings.
-/
import Derived.Test.YtbilklnipfabpaaGreatDoorEJKit1
import Derived.Test.YtbilklnipfabpaaGreatDoorEJColor4
import Derived.Test.YtbilklnipfabpaaGreatDoorELogB
import Derived.Test.YtbilklnipfabpaaGreatDoorEJFull1
import Derived.Test.YtbilklnipfabpaaGreatDoorEJLvl16
set_option linter.unusedSimpArgs false
set_option linter.unusedVariables false
namespace Go.Rse
open Go Go.Proofs
attribute [local irreducible] Pur yD yE Ex X Fn Imp LeV LeB FnO It yJ
def ica (m : Mn) (l : List Sg) : Int := if ictE m l = 0 then cntV m l else 0
def icb (m : Mn) (l : List Sg) : Int := if ictE m l = 0 then colN m l else 0
theorem zle (m : Mn) (l : List Sg) : 0 <= cntV m l := by
 unfold cntV; split
 ·next h =>
  have := zgI (L := mnsD m l) (n := 1) (fun x hx => zer h hx) (by omega) (by omega);split <;> omega
 ·omega
theorem znA (m : Mn) (l : List Sg) : 0 <= colN m l /\ colN m l <= 64 := by
 unfold colN; split
 ·split
  ·omega
  ·have := zch (k := (prL m l).length) (by omega); omega
 ·omega
theorem zsp {m : Mn} {l : List Sg} {e : Int} (h : ictE m l = e) (he : ¬ e = 0) : 0 = ica m l /\ 0 = icb m l := by
 unfold ica icb; rw [if_neg (by rw [h]; exact he), if_neg (by rw [h]; exact he)]; exact ⟨rfl, rfl⟩
theorem zui {m : Mn} {l : List Sg} (h : ictE m l = 0) : cntV m l = ica m l /\ colN m l = icb m l := by
 unfold ica icb; rw [if_pos h, if_pos h]; exact ⟨rfl, rfl⟩
theorem zuj (m : Mn) (l : List Sg) : 0 <= ica m l /\ ica m l <= 64 /\ 0 <= icb m l /\ icb m l <= 64 /\ ica m l * icb m l = ictV m l := by
 have h1 := zle m l;have h2 := ziB (m := m) (l := l);have h3 := znA m l;unfold ica icb ictV;by_cases h : ictE m l = 0
 ·rw [if_pos h, if_pos h, if_pos h]; exact ⟨h1, h2, h3.1, h3.2, rfl⟩
 ·rw [if_neg h, if_neg h, if_neg h]; exact ⟨by omega, by omega, by omega, by omega, rfl⟩
theorem zpl (n : Int) : dgL n [] = ([], n) := rfl
theorem znB (n b : Int) (r : List Int) : dgL n (b :: r) = ((dgL n r).2 % b :: (dgL n r).1, (dgL n r).2 / b) := rfl
theorem zpm (n a b : Int) : dgL n [a, b] = ([n / b % a, n % b], n / b / a) := rfl
attribute [local irreducible] cntV cntE colN colE ictE ictV ica icb dgL iofE iofD iofM ckD zA twos prL
set_option maxHeartbeats 4000000 in
theorem zdV (m : Mn) (l : List Sg) (hl : l.length <= 1000) : Fn Tryz.prog 108 [mnA m, sgsA l] (.tup [iv (ica m l), iv (icb m l), iv (ictE m l)]) := by
 have q1 := zle m l;have q2 := ziB (m := m) (l := l);have q3 := znA m l;have q4 := mulB q1 q2 q3.1 q3.2;refine Fn.go Tryz.func108 Tryz.ntmps108 (fun g w d => ?_);apply yb;refine yH ?_;iterate 3 refine ya ?_
 apply yk;iterate 2 refine ya ?_
 refine yp (zfE m l hl) ?_;refine zb ?_;apply ye;apply yb;refine yh ?_;refine ym rfl ?_ ?_<;>intro hc1
 ·have hE : cntE m l = ictE m l := by unfold ictE; rw [if_neg hc1]
  have hZ1 := zsp hE.symm hc1;obtain ⟨hA, hB⟩ := hZ1;apply yb;refine zM ?_;refine X.ret ?_;refine RetQ.ret (.many (by decide) (.cons (.tmp rfl (LeV.eq ?_)) (.cons (.tmp rfl (LeV.eq ?_)) (.cons (.tmp rfl (LeV.eq ?_)) .nil))));all_goals (first | exact congrArg (AV.int .i64) hA | exact congrArg (AV.int .i64) hB | exact congrArg (AV.int .i64) hE)
 apply yg;apply yb;iterate 2 refine ya ?_
 refine yp (zdU m l hl) ?_;refine zb ?_;apply ye;apply yb;refine yh ?_;refine ym rfl ?_ ?_<;>intro hc2
 ·have hE : colE m l = ictE m l := by unfold ictE; rw [if_pos hc1, if_neg hc2]
  have hZ2 := zsp hE.symm hc2;obtain ⟨hA, hB⟩ := hZ2;apply yb;refine zM ?_;refine X.ret ?_;refine RetQ.ret (.many (by decide) (.cons (.tmp rfl (LeV.eq ?_)) (.cons (.tmp rfl (LeV.eq ?_)) (.cons (.tmp rfl (LeV.eq ?_)) .nil))));all_goals (first | exact congrArg (AV.int .i64) hA | exact congrArg (AV.int .i64) hB | exact congrArg (AV.int .i64) hE)
 apply yg;apply ye;apply yb;refine zM ?_;refine ym rfl ?_ ?_<;>intro hc3
 ·have hE : 15 = ictE m l := by unfold ictE; rw [if_pos hc1, if_pos hc2, if_pos hc3]
  have hZ3 := zsp hE.symm (by decide);obtain ⟨hA, hB⟩ := hZ3;apply yb;refine yq ?_;refine X.ret ?_;refine RetQ.ret (.many (by decide) (.cons (.tmp rfl (LeV.eq ?_)) (.cons (.tmp rfl (LeV.eq ?_)) (.cons (.tmp rfl (LeV.eq ?_)) .nil))));all_goals (first | exact congrArg (AV.int .i64) hA | exact congrArg (AV.int .i64) hB | exact congrArg (AV.int .i64) hE)
 have hE : 0 = ictE m l := by unfold ictE; rw [if_pos hc1, if_pos hc2, if_neg (by omega)]
 have hZ4 := zui hE.symm;obtain ⟨hA, hB⟩ := hZ4;apply yg;apply yb;refine zb ?_;refine X.ret ?_;refine RetQ.ret (.many (by decide) (.cons (.tmp rfl (LeV.eq ?_)) (.cons (.tmp rfl (LeV.eq ?_)) (.cons (.tmp rfl (LeV.eq ?_)) .nil))));all_goals (first | exact congrArg (AV.int .i64) hA | exact congrArg (AV.int .i64) hB | exact congrArg (AV.int .i64) hE)
set_option maxHeartbeats 4000000 in
theorem ziP (m : Mn) (l : List Sg) (hl : l.length <= 1000) : Fn Tryz.prog 65 [mnA m, sgsA l] (.tup [iv (ictV m l), iv (ictE m l)]) := by
 have hZ1 := zuj m l;obtain ⟨q1, q2, q3, q4, q5⟩ := hZ1;have q6 := mulB q1 q2 q3 q4;refine Fn.go Tryz.func65 Tryz.ntmps65 (fun g w d => ?_);apply yb;refine yH ?_;iterate 2 refine ya ?_
 apply yk;iterate 2 refine ya ?_
 refine yp (zdV m l hl) ?_;iterate 7 refine ya ?_
 apply yk;iterate 5 refine ya ?_
 refine yf ?_;refine X.ret ?_;refine yx ?_ ?_;all_goals (first | rfl | exact congrArg (AV.int .i64) q5)
set_option maxHeartbeats 4000000 in
theorem zhH (N : Nat) (bs : List Int) (n : Int) (hN : bs.length = N) (h0 : 0 <= n) (h1 : n <= 9223372036854775807) (hb : ∀ x ∈ bs, 1 <= x) (hl : N <= 1000) : Fn Tryz.prog 109 [iv n, yd bs] (.tup [yd (dgL n bs).1, iv (dgL n bs).2]) := by
 induction N using Nat.strongRecOn generalizing bs n
 rename_i N ih;refine Fn.go Tryz.func109 Tryz.ntmps109 (fun g w d => ?_);apply yb;refine yh ?_;apply ye;apply yb;refine yq ?_;refine ym rfl ?_ ?_<;>intro hc1
 ·have hbs : bs = [] := List.length_eq_zero_iff.1 (by omega);subst hbs;have hD := zpl n;apply yb;refine yq ?_;refine X.ret ?_;refine RetQ.imp (yi (ts := [(4, yd []), (5, iv n)]) (hs := [])) ?_;refine yx ?_ ?_;all_goals (first | (rw [hD]; done) | (rw [hD]; rfl))
 obtain ⟨b, r, rfl⟩ : ∃ b r, bs = b :: r := by
  cases bs with
  | nil => simp at hc1
  | cons b r => exact ⟨b, r, rfl⟩
 have hD := znB n b r;have hb1 := hb b (by simp);have hZ1 := znX (l := r) h0 (fun x hx => hb x (by simp [hx]));obtain ⟨hr0, hr1⟩ := hZ1;have hrl := zly r n;have hNr : r.length + 1 = N := by simpa using hN
 have hg0 : (b :: r)[(0 : Int).toNat]? = some b := rfl;apply yg;apply yb;iterate 2 refine ya ?_
 first
  | refine zZ (zaW rfl rfl rfl sl22 ty3 (by omega) (by omega)) rfl ?_
  | refine zZ (zb4 rfl rfl sl22 ty3 (fun _ => rfl) (by omega) (by omega)) rfl ?_
 refine yp (ih r.length (by simp at hN; omega) r n rfl h0 h1 (fun x hx => hb x (by simp [hx])) (by simp at hN; omega)) ?_;refine zb ?_;apply ye;refine X.drawQ [⟨0, 19, iv (dgL n r).2, []⟩, ⟨1, 20, yd (b :: r), []⟩, ⟨2, 21, .ept intE b 0, [1]⟩, ⟨3, 22, iv b, [1, 2]⟩, ⟨4, 23, iv ((dgL n r).2 % b), [1, 2, 3, 0]⟩, ⟨6, 25, yd (dgL n r).1, []⟩, ⟨8, 27, iv (dgL n r).2, []⟩, ⟨9, 28, yd (b :: r), []⟩, ⟨10, 29, .ept intE b 0, [9]⟩, ⟨11, 30, iv b, [9, 10]⟩, ⟨12, 31, iv ((dgL n r).2 / b), [9, 10, 11, 8]⟩] [(5, [1, 2, 3, 0, 4]), (7, [1, 2, 3, 0, 4, 6, 5]), (13, [6, 5, 4, 3, 2, 1, 0, 7]), (14, [11, 10, 9, 8, 7, 6, 5, 4, 3, 2, 1, 0, 13, 12])] (fun j => match j with | 0 => ⟨[(0, iv n), (1, yd (b :: r)), (6, yd (dgL n r).1), (7, iv (dgL n r).2)], []⟩ | 1 => ⟨[(0, iv n), (1, yd (b :: r)), (6, yd (dgL n r).1), (7, iv (dgL n r).2), (24, .own 33)], [(33, .row intE ([(dgL n r).2 % b]) 3 1)]⟩ | 2 => ⟨[(0, iv n), (1, yd (b :: r)), (6, yd (dgL n r).1), (7, iv (dgL n r).2), (26, .own 33)], [(33, .row intE ([(dgL n r).2 % b] ++ (dgL n r).1) 3 1)]⟩ | 3 => ⟨[(0, iv n), (1, yd (b :: r)), (6, yd (dgL n r).1), (7, iv (dgL n r).2), (4, .own 33)], [(33, .row intE ([(dgL n r).2 % b] ++ (dgL n r).1) 3 1)]⟩ | _ => ⟨[(0, iv n), (1, yd (b :: r)), (6, yd (dgL n r).1), (7, iv (dgL n r).2), (4, .own 33), (5, iv ((dgL n r).2 / b))], [(33, .row intE ([(dgL n r).2 % b] ++ (dgL n r).1) 3 1)]⟩) mo (by kernel_rfl) (z6 (yi)) (fun j hj => ?_) (fun j c hc β hβ => ?_) ?_
 ·rcases j with _ | _ | _ | _ | _ | j
  ·exact yM
  ·exact yM
  ·exact yM
  ·exact yM
  ·exact yM
  ·exact absurd (show j + 5 <= 4 from hj) (by omega)
 ·rcases j with _ | _ | _ | _ | j
  ·obtain rfl : (5, [1, 2, 3, 0, 4]) = c := by injection hc
   refine yn rfl (yz (st0 := ⟨[(19, iv (dgL n r).2), (20, yd (b :: r)), (21, .ept intE b 0), (22, iv b), (23, iv ((dgL n r).2 % b)), (25, .ifb (β 6) (yd (dgL n r).1)), (27, .ifb (β 8) (iv (dgL n r).2)), (28, .ifb (β 9) (yd (b :: r))), (29, .ifb (β 10) (.ept intE b 0)), (30, .ifb (β 11) (iv b)), (31, .ifb (β 12) (iv ((dgL n r).2 / b))), (0, iv n), (1, yd (b :: r)), (6, yd (dgL n r).1), (7, iv (dgL n r).2)], []⟩) (yy) ?_);refine yE.imp (yw (yK (k := 33) (enc := intE) (l := [(dgL n r).2 % b]) sl22 ty3 ze3 (by decide) rfl rfl rfl rfl (by decide) (by decide) (fun _ => rfl) rfl) rfl rfl) (yy)
  ·obtain rfl : (7, [1, 2, 3, 0, 4, 6, 5]) = c := by injection hc
   refine yn rfl (yz (st0 := ⟨[(19, iv (dgL n r).2), (20, yd (b :: r)), (21, .ept intE b 0), (22, iv b), (23, iv ((dgL n r).2 % b)), (25, yd (dgL n r).1), (27, .ifb (β 8) (iv (dgL n r).2)), (28, .ifb (β 9) (yd (b :: r))), (29, .ifb (β 10) (.ept intE b 0)), (30, .ifb (β 11) (iv b)), (31, .ifb (β 12) (iv ((dgL n r).2 / b))), (0, iv n), (1, yd (b :: r)), (6, yd (dgL n r).1), (7, iv (dgL n r).2), (24, .own 33)], [(33, .row intE ([(dgL n r).2 % b]) 3 1)]⟩) (yy) ?_);refine yE.imp (zbj rfl rfl rfl SlK.h TiK.h (by decide) (by decide) (fun _ => rfl) (fun _ => rfl) (by first | omega | (simp; done) | (simp; omega) | (simp_all; omega)) rfl) (yy)
  ·obtain rfl : (13, [6, 5, 4, 3, 2, 1, 0, 7]) = c := by injection hc
   refine yn rfl (yz (st0 := ⟨[(19, iv (dgL n r).2), (20, yd (b :: r)), (21, .ept intE b 0), (22, iv b), (23, iv ((dgL n r).2 % b)), (25, yd (dgL n r).1), (27, .ifb (β 8) (iv (dgL n r).2)), (28, .ifb (β 9) (yd (b :: r))), (29, .ifb (β 10) (.ept intE b 0)), (30, .ifb (β 11) (iv b)), (31, .ifb (β 12) (iv ((dgL n r).2 / b))), (0, iv n), (1, yd (b :: r)), (6, yd (dgL n r).1), (7, iv (dgL n r).2), (26, .own 33)], [(33, .row intE ([(dgL n r).2 % b] ++ (dgL n r).1) 3 1)]⟩) (yy) ?_);refine yE.imp (yw (Pur.stepA (zbK rfl)) rfl rfl) (yy)
  ·obtain rfl : (14, [11, 10, 9, 8, 7, 6, 5, 4, 3, 2, 1, 0, 13, 12]) = c := by injection hc
   refine yn rfl (yz (st0 := ⟨[(19, iv (dgL n r).2), (20, yd (b :: r)), (21, .ept intE b 0), (22, iv b), (23, iv ((dgL n r).2 % b)), (25, yd (dgL n r).1), (27, iv (dgL n r).2), (28, yd (b :: r)), (29, .ept intE b 0), (30, iv b), (31, iv ((dgL n r).2 / b)), (0, iv n), (1, yd (b :: r)), (6, yd (dgL n r).1), (7, iv (dgL n r).2), (4, .own 33)], [(33, .row intE ([(dgL n r).2 % b] ++ (dgL n r).1) 3 1)]⟩) (yy) ?_);refine yE.imp (yw (Pur.stepA (zbK rfl)) rfl rfl) (yy)
  ·exact absurd hc (by simp)
 refine X.ret ?_;refine RetQ.imp (Imp.freeze (k := 33) rfl) ?_;refine yx ?_ ?_;all_goals (first | (rw [hD]; done) | (rw [hD]; rfl))
set_option maxHeartbeats 4000000 in
theorem zms (m : Mn) (l : List Sg) (n : Int) (hl : l.length <= 1000) : Fn Tryz.prog 66 [mnA m, sgsA l, iv n] (.tup [yd (iofD m l n), yd (iofM m l n), iv (iofE m l n)]) := by
 have hZ1 := zuj m l;obtain ⟨q1, q2, q3, q4, q5⟩ := hZ1;have q6 := mulB q1 q2 q3 q4;refine Fn.go Tryz.func66 Tryz.ntmps66 (fun g w d => ?_);apply yb;refine yH ?_;iterate 3 refine ya ?_
 apply yk;iterate 2 refine ya ?_
 refine yp (zdV m l hl) ?_;iterate 6 refine ya ?_
 refine yf ?_;apply ye;apply yb;refine yh ?_;refine ym rfl ?_ ?_<;>intro hc1
 ·have hE : ictE m l = iofE m l n := by unfold iofE; rw [if_neg hc1]
  have hD := (znY (n := n) (by rw [← hE]; exact hc1)).symm;have hM := (znZ (n := n) (by rw [← hE]; exact hc1)).symm;apply yb;refine zM ?_;refine X.ret ?_;refine RetQ.imp (yi (ts := [(6, yd []), (7, yd []), (8, iv (ictE m l))]) (hs := [])) ?_;refine RetQ.ret (.many (by decide) (.cons (.tmp rfl (LeV.eq ?_)) (.cons (.tmp rfl (LeV.eq ?_)) (.cons (.tmp rfl (LeV.eq ?_)) .nil))));all_goals (first | exact congrArg yd hD | exact congrArg yd hM | exact congrArg (AV.int .i64) hE)
 apply yg;apply ye;apply yb;iterate 2 refine ya ?_
 refine ExF.at 2 ?_;refine yI ?_;iterate 5 refine ExF.gi ?_
 refine yF ?_;refine yf ?_;refine ym rfl ?_ ?_<;>intro hc2
 ·have hE : 2 = iofE m l n := by unfold iofE; rw [if_pos hc1, if_pos (by omega)]
  have hD := (znY (m := m) (l := l) (n := n) (by omega)).symm;have hM := (znZ (m := m) (l := l) (n := n) (by omega)).symm;apply yb;refine yq ?_;refine X.ret ?_;refine RetQ.imp (yi (ts := [(6, yd []), (7, yd []), (8, iv 2)]) (hs := [])) ?_;refine RetQ.ret (.many (by decide) (.cons (.tmp rfl (LeV.eq ?_)) (.cons (.tmp rfl (LeV.eq ?_)) (.cons (.tmp rfl (LeV.eq ?_)) .nil))));all_goals (first | exact congrArg yd hD | exact congrArg yd hM | exact congrArg (AV.int .i64) hE)
 have hE : 0 = iofE m l n := by unfold iofE; rw [if_pos hc1, if_neg (by omega)]
 have hp := zn0 hE.symm;have hZ2 := zui hc1;obtain ⟨ha, hb⟩ := hZ2;have hi0 := zg4 hc1;have hcp := zch hi0.2.2.2.1;rw [← hi0.2.2.2.2.1] at hcp;rw [ha, hb] at hp;rw [ha] at hi0;rw [hb] at hcp;have hDot := zm4 m l hl (n / icb m l % ica m l);rw [hp.1, hp.2.1] at hDot;have hCol := zkl m l (n % icb m l) hl;rw [hp.2.2.1, hp.2.2.2] at hCol;have hDg := zhH 2 [ica m l, icb m l] n rfl (by omega) (by omega) (fun x hx => by simp at hx; omega) (by decide);rw [zpm] at hDg;dsimp only at hDg;have hg0 : [n / icb m l % ica m l, n % icb m l][(0 : Int).toNat]? = some (n / icb m l % ica m l) := rfl;have hg1 : [n / icb m l % ica m l, n % icb m l][(1 : Int).toNat]? = some (n % icb m l) := rfl;apply yg;apply yb;iterate 3 refine ya ?_
 refine yS intE [ica m l, icb m l] ?_;refine Ex.imp (Imp.freeze (k := 37) rfl) ?_;refine yp hDg ?_;refine zb ?_;apply ye;refine zu [6,11,41,42,43,44,45,46,47,48,49] [0,0,0,4,12,31,63,127,127,255,1023] mo ?_;iterate 5 refine yl ?_
 refine zj hDot ?_;iterate 5 refine yl ?_
 refine y2 ?_;apply Ex.nil;apply ye;apply yb;refine yh ?_;refine ym rfl ?_ ?_<;>intro hc3
 ·exact absurd rfl hc3
 apply yg;apply ye;refine zu [7,11,53,54,55,56,57,58,59,60,61] [0,0,0,4,12,31,63,127,127,255,1023] mo ?_;iterate 5 refine yl ?_
 refine zj hCol ?_;iterate 5 refine yl ?_
 refine y2 ?_;apply Ex.nil;apply ye;apply yb;refine yh ?_;refine ym rfl ?_ ?_<;>intro hc4
 ·exact absurd rfl hc4
 apply yg;apply yb;refine zb ?_;refine X.ret ?_;refine RetQ.ret (.many (by decide) (.cons (.tmp rfl (LeV.eq ?_)) (.cons (.tmp rfl (LeV.eq ?_)) (.cons (.tmp rfl (LeV.eq ?_)) .nil))));all_goals (first | rfl | exact congrArg (AV.int .i64) hE)
set_option maxHeartbeats 4000000 in
theorem zjC (m : Mn) (l : List Sg) (hl : l.length <= 1000) : Fn Tryz.prog 43 [mnA m, sgsA l] (.tup [yd (if ckD m l = 0 then zA m l else []), yd (twos (prL m l).length), iv (ckD m l)]) := by
 refine Fn.go Tryz.func43 Tryz.ntmps43 (fun g w d => ?_);apply yb;refine yH ?_;iterate 3 refine ya ?_
 apply yk;iterate 2 refine ya ?_
 refine yp (zkm m l hl) ?_;refine zb ?_;apply ye;apply yb;refine yh ?_;refine ym rfl ?_ ?_<;>intro hc1
 ·have ht : [] = twos (prL m l).length := by rw [zmS hc1]; unfold twos; rfl
  have hr : [] = (if ckD m l = 0 then zA m l else []) := by rw [if_neg hc1]
  apply yb;refine zM ?_;refine X.ret ?_;refine RetQ.imp (yi (ts := [(4, yd []), (5, yd []), (6, iv (ckD m l))]) (hs := [])) ?_;refine RetQ.ret (.many (by decide) (.cons (.tmp rfl (LeV.eq ?_)) (.cons (.tmp rfl (LeV.eq ?_)) (.cons (.tmp rfl (LeV.eq ?_)) .nil))));all_goals (first | exact congrArg yd ht | exact congrArg yd hr | rfl)
 apply yg;apply yb;iterate 2 refine ya ?_
 refine yp (ziz m l hl) ?_;refine zb ?_;apply ye;apply yb;refine yh ?_;refine ym rfl ?_ ?_<;>intro hc2
 ·exact absurd hc1 hc2
 apply yg;apply yb;refine zb ?_;refine X.ret ?_;refine RetQ.ret (.many (by decide) (.cons (.tmp rfl (LeV.eq ?_)) (.cons (.tmp rfl (LeV.eq ?_)) (.cons (.tmp rfl (LeV.eq ?_)) .nil))));all_goals (first | rfl | exact congrArg (AV.int .i64) hc1.symm)
end Go.Rse
namespace Go.Rse
open Go Go.Proofs
attribute [local irreducible] Pur yD yE Ex X Fn Imp LeV LeB FnO It yJ
attribute [local irreducible] cntV cntE colN colE ictE ictV ica icb dgL iofE iofD iofM ckD zA twos prL kL mnsD ofD digP
end Go.Rse
namespace Go.Rse
open Go Go.Proofs Go.RowKit
attribute [local irreducible] Pur yD yE Ex X Fn Imp LeV LeB FnO It yJ
theorem zgT (m : Mn) (l : List Sg) (ch mi : List Int) : (itmV m l ch mi).length <= l.length := by
 unfold itmV; split
 ·rw [zgL]; exact zko l _
 ·simp
theorem znC (m : Mn) (l : List Sg) (n : Int) : (iofM m l n).length <= l.length := by
 unfold iofM; split
 ·rw [zgF]; exact zcv m l
 ·simp
attribute [local irreducible] itmE itmV ictE ictV iofE iofD iofM zA ckD twos prL
end Go.Rse
namespace Go.Rse
open Go Go.Proofs
theorem LeV.agg {cs cs' : List AV} (h : LeL cs cs') : LeV (.agg cs) (.agg cs') := fun I ρ v hv => by
 cases hv with
 | agg _ vs hl hvv =>
  obtain ⟨h1, h2⟩ := h.rvl (vs := vs) ⟨hl, hvv⟩;exact .agg cs' vs h1 h2
def rdI (m : Mn) (l : List Sg) : List Ite := itmV m l (zA m l) (twos (prL m l).length)
def rdE (m : Mn) (l : List Sg) : Int := if ckD m l = 0 then leE m (rdI m l) else ckD m l
def rdV (m : Mn) (l : List Sg) : Rdg := if rdE m l = 0 then ⟨zA m l, twos (prL m l).length, leC m (rdI m l), (leI m (rdI m l)).map (·.Dur)⟩ else ⟨[], [], [], []⟩
section
variable {m : Mn} {l : List Sg}
theorem zuk (h : ckD m l = 0) : itmE m l (zA m l) (twos (prL m l).length) = 0 := by
 unfold itmE;rw [if_pos (ziR (zak h).1 h)]; exact ziS h
theorem zwn (h : ¬ ckD m l = 0) : rdE m l = ckD m l /\ rdV m l = ⟨[], [], [], []⟩ := by
 have : rdE m l = ckD m l := by unfold rdE; rw [if_neg h]
 refine ⟨this, ?_⟩; unfold rdV; rw [this, if_neg h]
theorem zwo (h : ckD m l = 0) (h2 : ¬ leE m (rdI m l) = 0) : rdE m l = leE m (rdI m l) /\ rdV m l = ⟨[], [], [], []⟩ := by
 have : rdE m l = leE m (rdI m l) := by unfold rdE; rw [if_pos h]
 refine ⟨this, ?_⟩; unfold rdV; rw [this, if_neg h2]
theorem zul (h : ckD m l = 0) (h2 : leE m (rdI m l) = 0) : rdE m l = 0 /\ rdV m l = ⟨zA m l, twos (prL m l).length, leC m (rdI m l), (leI m (rdI m l)).map (·.Dur)⟩ := by
 have : rdE m l = 0 := by unfold rdE; rw [if_pos h, h2]
 refine ⟨this, ?_⟩; unfold rdV; rw [this, if_pos rfl]
theorem zgj : (rdI m l).length <= l.length := zgT _ _ _ _
end
theorem zlf {m : Mn} : ∀ (L : List Int) (l : List Ite) (C : List Int), (lvF m L l C).2.1.length <= l.length
 | [], l, C => Nat.le_refl _
 | k :: r, l, C => by
  unfold lvF;split
  ·rename_i h;have := zlf (m := m) r (apV m k l (cuV m k l)) (C ++ cuV m k l);rw [zgp (zh8 h)] at this; exact this
  ·simp
theorem zlg (m : Mn) (l : List Ite) : (leI m l).length <= l.length := by
 unfold leI;split
 ·exact zlf _ _ _
 ·simp
theorem zks {l : List Ite} {n : Nat} {x : Ite} (h : l[n]? = some x) : (l.take n).map (·.Dur) ++ [x.Dur] = (l.take (n + 1)).map (·.Dur) := by
 rw [List.take_add_one, h]; simp
end Go.Rse
namespace Go.Rse
open Go Go.Proofs
def itP (x : Ite) : Prop := itF x = 0 /\ 1 <= x.Dur.N
def unB (m : Mn) (v : Int) : Bool := decide (5 < v) || (decide ((fullT m v).D = 1) && decide (ckT (fullT m v) = 0) && decide (1 <= (fullT m v).N) && decide (addE (fullT m v) (fullT m v) = 0) && decide (1 <= (addV (fullT m v) (fullT m v)).N))
theorem zpn : zfF unB = true := by kernel_rfl
theorem zra {m : Mn} {k : Int} (h : unE m k = 0) : (∃ f : Int, unT m k = ⟨f, 1⟩ /\ 1 <= f) /\ ckT (unT m k) = 0 /\ addE (unT m k) (unT m k) = 0 /\ 1 <= (addV (unT m k) (unT m k)).N := by
 obtain ⟨h1, h2, h3, h4⟩ := zeD h;have hb := zbu zpn h1 (show 1 <= k + 1 by omega) (show k + 1 <= 8 by omega);unfold unT; rw [if_pos h];unfold unB at hb;rw [decide_eq_false (show ¬ 5 < k + 1 by omega), Bool.false_or] at hb;simp only [Bool.and_eq_true, decide_eq_true_eq] at hb;obtain ⟨⟨⟨⟨a, b⟩, c⟩, d⟩, e⟩ := hb;refine ⟨⟨(fullT m (k + 1)).N, ?_, c⟩, b, d, e⟩;generalize fullT m (k + 1) = t at *
 obtain ⟨x, y⟩ := t;simp only at a;subst a; rfl
theorem zjD {u : Tm} {x y : Ite} {f : Int} (hu : u = ⟨f, 1⟩) (hc : ckT u = 0) (hx : itP x) (hl : lgQ u x = true) (hs : sameI y x) (hd : y.Dur = subV x.Dur u) (hB : ckT y.Before = 0) (hA : ckT y.After = 0) : itP y := by
 obtain ⟨h1, h2, h3, h4, h5⟩ := zd7 hx.1;unfold lgQ at hl;rw [decide_eq_true_iff] at hl;subst hu;obtain ⟨e1, e2, e3, e4⟩ := zgW h2 hc hl;obtain ⟨s1, s2, s3, s4, s5, s6⟩ := hs;refine ⟨zku ⟨by rw [s2, s6]; exact h1, by rw [hd]; exact e2, hB, hA, ?_⟩, by rw [hd]; exact e3⟩;unfold itKd at h5 ⊢; rw [s3, s4, s5]; exact h5
theorem znD {u : Tm} {S : List Tm} {b : Tm} (h : rcQ u S b = true) : ckT (addV b u) = 0 := by
 unfold rcQ at h;simp only [Bool.and_eq_true, decide_eq_true_eq] at h;exact (zlo h.1).2.2
theorem zrb {u : Tm} {x : Ite} {f : Int} {S : List Tm} (hu : u = ⟨f, 1⟩) (hc : ckT u = 0) (hx : itP x) (hl : lgQ u x = true) (hr : rcQ u S x.After = true) : itP (zr u x) :=
 zjD hu hc hx hl (zgY u x) rfl (zd7 hx.1).2.2.1 (znD hr)
theorem zrc {u : Tm} {x : Ite} {f : Int} {S : List Tm} (hu : u = ⟨f, 1⟩) (hc : ckT u = 0) (hx : itP x) (hl : lgQ u x = true) (hr : rcQ u S x.Before = true) : itP (zam u x) :=
 zjD hu hc hx hl (zgZ u x) rfl (znD hr) (zd7 hx.1).2.2.2.1
theorem zrd {u : Tm} {x : Ite} (ha : addE u u = 0) (hn : 1 <= (addV u u).N) (hx : itP x) (hd : x.Dur = u) : itP (dblI x) := by
 obtain ⟨h1, h2, h3, h4, h5⟩ := zd7 hx.1;refine ⟨zku ⟨h1, ?_, h3, h4, h5⟩, ?_⟩
 ·show ckT (addV x.Dur x.Dur) = 0;rw [hd]; exact (zlo ha).2.2
 ·show 1 <= (addV x.Dur x.Dur).N;rw [hd]; exact hn
theorem zbV {l : List Ite} {i : Int} (h0 : 0 <= i) (h : i < l.length) : itg l i ∈ l := by
 unfold itg;rw [List.getD_eq_getElem?_getD, lgg (by omega)];exact List.getElem_mem _
theorem zh3 {Q : Ite -> Prop} {l : List Ite} {i : Int} {f : Ite -> Ite} (hi : 0 <= i) (hl : i < l.length) (h : ∀ x ∈ l, Q x) (hf : Q (f (itg l i))) : ∀ x ∈ upI l i f, Q x := by
 intro x hx;unfold upI at hx;rcases List.mem_or_eq_of_mem_set hx with h1 | h1
 ·exact h x h1
 ·rw [h1]; exact hf
theorem zum {u : Tm} {k : Int} {l0 l : List Ite} {L : List (Int × Bool)} {s : Sgm} {c f : Int} (hu : u = ⟨f, 1⟩) (hcu : ckT u = 0) (ha : addE u u = 0) (hn : 1 <= (addV u u).N) (hs : SgOk k l0 s) (hl : l.length = l0.length)
 (h : c ∈ alQ u k l L s) (hP : ∀ x ∈ l, itP x) : ∀ x ∈ chN u s c l, itP x := by
 have hc := zfm hs.ft h;unfold alQ at h;have hlf : (c = 1 \/ c = 3) -> s.Left < l.length /\ 0 <= s.Left /\ s.Left < s.From := fun h => by have := hs.tl; have := hs.ft; have := hc.lf h; rcases hs.lf with h2 | h2 <;> omega
 have hrt : (c = 2 \/ c = 3) -> s.Right < l.length /\ 0 <= s.Right /\ s.Right = s.To := fun h => by have := hc.rt h; rcases hs.rt with h2 | h2 <;> omega
 have hpo : (c = 1 \/ c = 3) -> poQ u k l L s = true := fun hh => by
  rcases zbq h with ⟨h1, _⟩ | ⟨h1, h2, _⟩ | ⟨h1, h2, _⟩ | ⟨h1, h2, h3, _⟩ | ⟨h1, h2, _⟩
  ·omega
  ·exact h2
  ·omega
  ·exact h2
  ·omega
 have han : (c = 2 \/ c = 3) -> anQ u k l s = true := fun hh => by
  rcases zbq h with ⟨h1, _⟩ | ⟨h1, h2, _⟩ | ⟨h1, h2, _⟩ | ⟨h1, h2, h3, _⟩ | ⟨h1, h2, _⟩
  ·omega
  ·omega
  ·exact h2
  ·exact h3
  ·omega
 have hat : c = 4 -> atQ u k l s = true := fun hh => by
  rcases zbq h with ⟨h1, _⟩ | ⟨h1, h2, _⟩ | ⟨h1, h2, _⟩ | ⟨h1, h2, h3, _⟩ | ⟨h1, h2, _⟩
  ·omega
  ·omega
  ·omega
  ·omega
  ·exact h2
 unfold chN;simp only;by_cases h4 : c = 4
 ·have n1 : ¬ (c = 1 \/ c = 3) := by omega
  have n2 : ¬ (c = 2 \/ c = 3) := by omega
  rw [if_neg n2, if_neg n1, if_pos h4];obtain ⟨a1, a2⟩ := zlr (hat h4)
  have hd : (itg l (s.To - 1)).Dur = u := by
   unfold ntQ at a2;simp only [Bool.and_eq_true, decide_eq_true_eq] at a2;exact a2.2
  have := hs.ft; have := hs.tl; have := hs.f0;exact zh3 (by omega) (by omega) hP (zrd ha hn (hP _ (zbV (by omega) (by omega))) hd)
 ·rw [if_neg h4]
  have hA : (∀ x ∈ (if c = 1 \/ c = 3 then upI l s.Left (zr u) else l), itP x) /\ (if c = 1 \/ c = 3 then upI l s.Left (zr u) else l).length = l.length ∧
   ((c = 2 \/ c = 3) -> itg (if c = 1 \/ c = 3 then upI l s.Left (zr u) else l) s.Right = itg l s.Right) := by
   split
   ·rename_i hh;obtain ⟨b1, b2, b3⟩ := hlf hh;obtain ⟨c1, c2, c3⟩ := zlp (hpo hh);refine ⟨zh3 b2 b1 hP (zrb hu hcu (hP _ (zbV b2 b1)) c2 c3), zbW _ _ _, fun h2 => ?_⟩;obtain ⟨d1, d2, d3⟩ := hrt h2;have := hs.ft;rw [zba b2 d2 b1, if_neg (by omega)]
   ·exact ⟨hP, rfl, fun _ => rfl⟩
  generalize (if c = 1 \/ c = 3 then upI l s.Left (zr u) else l) = l1 at *
  obtain ⟨hA1, hA2, hA3⟩ := hA;split
  ·rename_i hh;obtain ⟨b1, b2, b3⟩ := hrt hh;obtain ⟨c1, c2, c3⟩ := zlq (han hh);rw [← hA3 hh] at c2 c3;exact zh3 b2 (by omega) hA1 (zrc hu hcu (hA1 _ (zbV b2 (by omega))) c2 c3)
  ·exact hA1
theorem zpo {u : Tm} {k : Int} {l0 l : List Ite} {L : List (Int × Bool)} {s : Sgm} {c : Int} (hs : SgOk k l0 s) (hl : l.length = l0.length) (hsm : ∀ i : Int, 0 <= i -> sameI (itg l i) (itg l0 i))
 (h : c ∈ alQ u k l L s) {i : Int} (hi : 0 <= i) (hf : (itg l i).Fixed = true) : itg (chN u s c l) i = itg l i := by
 have hc := zfm hs.ft h
 have h1 : ¬ i = s.Left := fun e => by
  rcases hs.lf with h2 | h2
  ·omega
  ·have := (hsm i hi).2.2.2.2.1;rw [hf, e, h2.2.2.2.2] at this; cases this
 have h2 : ¬ i = s.Right := fun e => by
  rcases hs.rt with h2 | h2
  ·omega
  ·have := (hsm i hi).2.2.2.2.1;rw [hf, e, h2.2.2.2.2] at this; cases this
 by_cases h3 : i = s.To - 1
 ·have h4 : ¬ c = 4 := fun e => by
   unfold alQ at h;rcases zbq h with ⟨g1, _⟩ | ⟨g1, g2, _⟩ | ⟨g1, g2, _⟩ | ⟨g1, g2, g3, _⟩ | ⟨g1, g2, _⟩
   ·omega
   ·omega
   ·omega
   ·omega
   ·have := (zlr g2).2;unfold ntQ at this;simp only [Bool.and_eq_true, Bool.not_eq_true'] at this;rw [← h3, hf] at this;exact absurd this.1.1.2 (by simp)
  unfold chN;simp only;rw [if_neg h4]
  have A : itg (if c = 1 \/ c = 3 then upI l s.Left (zr u) else l) i = itg l i := by
   split
   ·rename_i hh;have h0 := hc.lf hh;have hlt : s.Left < l.length := by have := hs.tl; have := hs.ft; rcases hs.lf with h2 | h2 <;> omega
    rw [zba h0 hi hlt, if_neg (fun e => h1 e.symm)]
   ·rfl
  have B : (if c = 1 \/ c = 3 then upI l s.Left (zr u) else l).length = l.length := by split <;> simp [zbW]
  generalize (if c = 1 \/ c = 3 then upI l s.Left (zr u) else l) = l1 at *
  split
  ·rename_i hh;have h0 := hc.rt hh;have hlt : s.Right < l1.length := by rw [B, hl]; rcases hs.rt with h2 | h2 <;> omega
   rw [zba h0 hi hlt, if_neg (fun e => h2 e.symm)]; exact A
  ·exact A
 ·exact (zls (u := u) hs hl hc hi).2.1 h1 h2 h3
theorem zre {u : Tm} {k : Int} {S : List Sgm} {l : List Ite} {M : List Int} {f : Int} (hu : u = ⟨f, 1⟩) (hcu : ckT u = 0) (ha : addE u u = 0) (hn : 1 <= (addV u u).N) (hS : SgsOk k l S) (hP : ∀ x ∈ l, itP x) :
 ∀ n, n <= S.length -> okJ u k S l M n = true -> (∀ x ∈ (stK u S l M n).1, itP x) /\ ∀ i : Int, 0 <= i -> (itg l i).Fixed = true -> itg (stK u S l M n).1 i = itg l i
 | 0, _, _ => ⟨hP, fun _ _ _ => rfl⟩
 | n + 1, hnn, hk => by
  have hk : (okJ u k S l M n && decide (M.getD n 0 ∈ alK u k S l M n)) = true := hk;simp only [Bool.and_eq_true, decide_eq_true_eq] at hk;obtain ⟨i1, i2⟩ := zre hu hcu ha hn hS hP n (by omega) hk.1;have hst := zg0 hS n (by omega) hk.1;rw [zh7];have hs : S[n]? = some S[n] := lgg (by omega);have hd : S.getD n default = S[n] := by rw [List.getD_eq_getElem?_getD, hs]; rfl
  have hso := hS.all _ (List.mem_of_getElem? hs);unfold alK at hk;rw [hd] at hk ⊢;generalize S[n] = s at *
  refine ⟨zum hu hcu ha hn hso hst.len hk.2 i1, fun i hi hf => ?_⟩;have hf2 : (itg (stK u S l M n).1 i).Fixed = true := by rw [(hst.same i hi).2.2.2.2.1]; exact hf
  rw [← i2 i hi hf];exact zpo hso hst.len hst.same hk.2 hi hf2
theorem zh4 {m : Mn} {k : Int} {l : List Ite} {M : List Int} (h : apE m k l M = 0) : segE m k l = 0 /\ (segV m k l).length = M.length /\ okJ (unT m k) k (segV m k l) l M M.length = true := by
 unfold apE at h;split at h
 ·split at h
  ·cases h
  ·rename_i h1 h2;refine ⟨h1, Classical.byContradiction fun e => h2 (.inl e), ?_⟩;cases hk : okJ (unT m k) k (segV m k l) l M M.length with
   | true => rfl
   | false => exact absurd (.inr hk) h2
 ·exact absurd h (by assumption)
theorem zun {m : Mn} {k : Int} {l : List Ite} {M : List Int} (h : apE m k l M = 0) (hP : ∀ x ∈ l, itP x) :
 (∀ x ∈ apV m k l M, itP x) /\ (apV m k l M).length = l.length /\ (∀ i : Int, 0 <= i -> sameI (itg (apV m k l M) i) (itg l i)) /\ ∀ i : Int, 0 <= i -> (itg l i).Fixed = true -> itg (apV m k l M) i = itg l i := by
 obtain ⟨h1, h2, h3⟩ := zh4 h;obtain ⟨⟨f, u1, u2⟩, u3, u4, u5⟩ := zra (zdY h1).1;have hS := zb9 h1;obtain ⟨i1, i2⟩ := zre u1 u3 u4 u5 hS hP M.length (by omega) h3;have hst := zg0 hS M.length (by omega) h3;unfold apV; rw [if_pos h];exact ⟨i1, hst.len, hst.same, i2⟩
end Go.Rse
namespace Go.Rse
open Go Go.Proofs
def fuL : List Tm := [⟨1, 8⟩, ⟨1, 4⟩, ⟨1, 2⟩, ⟨1, 1⟩, ⟨2, 1⟩, ⟨3, 1⟩, ⟨4, 1⟩, ⟨6, 1⟩, ⟨9, 1⟩, ⟨8, 1⟩, ⟨12, 1⟩, ⟨18, 1⟩, ⟨27, 1⟩, ⟨16, 1⟩, ⟨24, 1⟩, ⟨36, 1⟩, ⟨54, 1⟩, ⟨81, 1⟩]
def unL : List Tm := [⟨1, 1⟩, ⟨2, 1⟩, ⟨3, 1⟩, ⟨4, 1⟩, ⟨6, 1⟩, ⟨9, 1⟩, ⟨8, 1⟩, ⟨12, 1⟩, ⟨18, 1⟩, ⟨27, 1⟩]
def fuQ (m : Mn) (v : Int) : Bool := decide (fullT m v ∈ fuL) && (decide (v <= 1) || decide (5 < v) || decide (fullT m v ∈ unL))
theorem zpp : zfF fuQ = true := by kernel_rfl
end Go.Rse
