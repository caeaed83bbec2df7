/-
  Walks: the reference for spellings: durations of a spelling.
-/
import Derived.Test.YtggdlojopkoegaaGreatDoorBJRef22
import Derived.Test.YtggdlojopkoegaaGreatDoorBJLaw23a
set_option linter.unusedSimpArgs false
set_option linter.unusedVariables false
namespace Go.Rse
open Go Go.Proofs
attribute [local irreducible] Pur yD yF Ex X Fn Imp LeV LeB FnO It yH
def mdL (m : Mn) (v y : Int) : List Tm :=
 if y = 1 \/ y = 8 then [yx m v]
 else if y = 2 then (if m.p v = 2 then [tmkT ((yx m v).N * 3) ((yx m v).D * 2)] else [])
 else if y = 3 then (rlL m v (5 - v).toNat v (yx m v)).filter fun x => !decide (x = yx m v)
 else if y = 4 then (if (2 <= v /\ v <= 5) /\ m.p (v - 1) = 3 then [tmkT ((yx m v).N * 2) ((yx m v).D * 1)] else [])
 else if y = 5 then [durT m v]
 else if y = 6 then [tmkT ((durT m v).N * 3) ((durT m v).D * 2)]
 else if y = 7 then (if m.p 4 = 2 /\ v = 4 then [⟨3, 2⟩] else if m.p 4 = 2 /\ v = 5 then [⟨1, 2⟩] else [])
 else []
def duB (m : Mn) (v : Int) : Bool := decide (0 <= (durT m v).N) && decide ((durT m v).N <= 1000) && decide (0 <= (durT m v).D) && decide ((durT m v).D <= 1000)
theorem zob : zfm duB = true := by kernel_rfl
theorem zsu {m : Mn} {v : Int} (hm : ckM m = 0) (h1 : 1 <= v) (h8 : v <= 8) : 0 <= (durT m v).N /\ (durT m v).N <= 1000 /\ 0 <= (durT m v).D /\ (durT m v).D <= 1000 := by
 have h := zbv zob hm h1 h8;unfold duB at h;simp only [Bool.and_eq_true, decide_eq_true_eq] at h;exact ⟨h.1.1.1, h.1.1.2, h.1.2, h.2⟩
theorem zmM {L : List Tm} {F u : Tm} {k : Nat} (h : L[k]? = some u) : (L.take (k + 1)).filter (fun x => !decide (x = F)) = (L.take k).filter (fun x => !decide (x = F)) ++ (if u = F then [] else [u]) := by
 rw [List.take_add_one, h, List.filter_append];by_cases e : u = F <;> simp [e]
attribute [local irreducible] cmpV subV yx insT rlN rlL tmkT durT mdL
set_option maxHeartbeats 4000000 in
theorem zd7 (m : Mn) (hm : ckM m = 0) (s : Sp) (hV1 : 1 <= s.Value) (hV8 : s.Value <= 8) (hW1 : 1 <= s.Way) (hW8 : s.Way <= 8) : Fn Tryz.prog 148 [mnA m, spA s] (tmsA (mdL m s.Value s.Way)) := by
 have hF := zrZ hm hV1 hV8;have hf1 := hF.n;have hf2 := hF.n1;have hf3 := hF.d;have hf4 := (zaW hF.ck).2.2.2.2.1;obtain ⟨hd1, hd2, hd3, hd4⟩ := zsu hm hV1 hV8;have hDur := zem m s.Value;rw [zjH hm hV1 hV8, if_pos rfl] at hDur;obtain ⟨D, hD⟩ : ∃ D, D = rlL m s.Value (5 - s.Value).toNat s.Value (yx m s.Value) := ⟨_, rfl⟩;have hLo := zd6 m hm s.Value hV1 (5 - s.Value).toNat s.Value (yx m s.Value) rfl hV1 hV8;rw [← hD] at hLo;have hDl := zfR m s.Value (5 - s.Value).toNat s.Value (yx m s.Value);rw [← hD] at hDl;have hp4 : 3 ^ (5 - s.Value).toNat <= 3 ^ 4 := Nat.pow_le_pow_right (by decide) (by omega);have hp5 : 3 ^ 4 = 81 := rfl;refine Fn.go Tryz.func148 Tryz.ntmps148 (fun g w d => ?_);apply yb;iterate 2 refine yA ?_
 refine ya ?_;apply yk;iterate 3 refine ya ?_
 apply yk;iterate 2 refine ya ?_
 refine ym (zau hm hV1 hV8) ?_;iterate 3 refine ya ?_
 refine yC ?_;refine Ex.mo ?_;refine ya ?_;apply yk;iterate 2 refine ya ?_
 refine ym hDur ?_;iterate 3 refine ya ?_
 refine yC ?_;refine Ex.mo ?_;refine yd ?_;apply ye;apply yb;refine yg ?_;apply X.block;refine zdv ⟨[(2, .ptr 2 0 0 0), (5, iv s.Value), (6, .ptr 6 0 0 0), (8, .ptr 8 0 0 0), (28, iv s.Way), (29, .bool (decide (s.Way = 1 \/ s.Way = 8)))], [(2, .box (mnE m) 23), (6, .box (tmE (yx m s.Value)) 40), (8, .box (tmE (durT m s.Value)) 40)]⟩ (fun hJ7 => ?_) ?_
 ·apply yb;refine yg ?_;refine yj rfl ?_ ?_<;>intro hc1
  ·have hb : decide (s.Way = 1) = decide (s.Way = 1 \/ s.Way = 8) := by simp [hc1]
   apply yf;exact X.imp yp hJ7
  ·have hb : decide (s.Way = 8) = decide (s.Way = 1 \/ s.Way = 8) := by simp [hc1]
   apply yc;refine yg ?_;exact X.imp yp hJ7
 refine yj rfl ?_ ?_<;>intro hc2
 ·have hV : [yx m s.Value] = mdL m s.Value s.Way := by unfold mdL; rw [if_pos hc2]
  apply yb;refine ya ?_;refine yO tmE [yx m s.Value] ?_;refine yd ?_;refine X.ret ?_;refine RetQ.imp (Imp.freeze (k := 33) rfl) ?_;refine yh ?_;all_goals (first | exact congrArg tmsA hV | rfl)
 apply yb;refine yg ?_;refine yj rfl ?_ ?_<;>intro hc3
 ·have hw2 : s.Way = 2 := hc3;apply yb;iterate 2 refine ya ?_
  refine ym (zr m s.Value) ?_;refine yd ?_;refine yj rfl ?_ ?_<;>intro hc4
  ·have hV : [tmkT ((yx m s.Value).N * 3) ((yx m s.Value).D * 2)] = mdL m s.Value s.Way := by unfold mdL; rw [if_neg (by omega), if_pos hw2, if_pos hc4]
   apply yb;refine ya ?_;refine ym (zah (yx m s.Value) 3 2 (by omega) (by omega)) ?_;refine yd ?_;refine X.ret ?_;refine yh ?_;all_goals (exact congrArg tmsA hV)
  have hV : [] = mdL m s.Value s.Way := by unfold mdL; rw [if_neg (by omega), if_pos hw2, if_neg hc4]
  apply yf;apply yb;refine yd ?_;refine X.ret ?_;refine RetQ.imp (yn (ts := [(4, tmsA [])]) (hs := [])) ?_;refine yh ?_;all_goals (first | exact congrArg tmsA hV | rfl)
 ·apply yb;refine yg ?_;refine yj rfl ?_ ?_<;>intro hc5
  ·have hw3 : s.Way = 3 := hc5;apply yb;refine yd ?_;apply ye;refine X.imp (yZ tmE 40 2 10 10 rfl rfl) ?_;apply yc;(iterate 4 refine ya ?_);refine ym hLo ?_;refine yd ?_;apply ye;apply yb;refine yd ?_;apply X.block;have hq0 : [] = (D.take 0).filter (fun x => !decide (x = yx m s.Value)) := by simp
   refine zb (ι := Nat) (fun (k : Nat) => [(6, .ptr 6 0 0 0), (10, .own 10), (11, tmsA D), (12, iv (k : Int))]) (fun (k : Nat) => [(6, .box (tmE (yx m s.Value)) 40), (10, .row tmE ((D.take k).filter (fun x => !decide (x = yx m s.Value))) 40 2)]) (fun (k : Nat) => k <= D.length) (fun (k : Nat) => D.length - k) 0 (fun k hk => ?_) (h0 := by
    exact yp)
   apply ye;apply yb;refine zx ?_;refine yj rfl ?_ ?_<;>intro hc6
   ·obtain ⟨u, hu⟩ : ∃ u, D[k]? = some u := ⟨_, lgg (by omega)⟩;have hu2 : D[(k : Int).toNat]? = some u := by simpa using hu
    have hst := zmM (F := yx m s.Value) hu;have hfl := List.length_filter_le (fun x => !decide (x = yx m s.Value)) (D.take k);have htl : (D.take k).length <= D.length := by rw [List.length_take]; omega
    apply yf;apply ye;apply X.block;apply ye;refine zo [55,56,57,58,59,60] [0,0,3,7,0,31] mo ?_;(iterate 6 refine yi ?_);refine yR ?_;apply Ex.nil;refine yj rfl ?_ ?_<;>intro hc7
    ·rw [if_neg hc7] at hst;have hst2 := hst.symm;apply yc;(iterate 5 refine ya ?_);refine yO tmE [u] ?_;refine Ex.mo ?_;refine yd ?_;apply yc;refine yo ?_;refine yJ (k + 1) (hI := yp)
    ·rw [if_pos hc7, List.append_nil] at hst;have hst2 := hst.symm;apply yf;apply yc;refine yo ?_;refine yJ (k + 1) (hI := yp)
   ·have hkD : k = D.length := by omega
    subst hkD;have hV : (D.take D.length).filter (fun x => !decide (x = yx m s.Value)) = mdL m s.Value s.Way := by unfold mdL; rw [if_neg (by omega), if_neg (by omega), if_pos hw3, List.take_length, hD]
    apply X.exit;apply yb;refine yg ?_;refine X.ret ?_;refine RetQ.imp (Imp.freeze (k := 10) rfl) ?_;refine yh ?_;all_goals (first | exact congrArg tmsA hV | rfl)
  apply yb;refine yg ?_;refine yj rfl ?_ ?_<;>intro hc8
  ·have hw4 : s.Way = 4 := hc8;apply yb;(iterate 2 refine ya ?_);refine ExF.at 2 ?_;refine yG ?_;(iterate 2 refine ExF.gi ?_);(iterate 2 refine yG ?_);(iterate 3 refine ExF.gi ?_);refine ExF.cg (zr m (s.Value - 1)) ?_;refine ExF.gi ?_;refine yE ?_;refine yd ?_;refine yj rfl ?_ ?_<;>intro hc9
   ·have hV : [tmkT ((yx m s.Value).N * 2) ((yx m s.Value).D * 1)] = mdL m s.Value s.Way := by unfold mdL; rw [if_neg (by omega), if_neg (by omega), if_neg (by omega), if_pos hw4, if_pos hc9]
    apply yb;refine ya ?_;refine ym (zah (yx m s.Value) 2 1 (by omega) (by omega)) ?_;refine yd ?_;refine X.ret ?_;refine yh ?_;all_goals (exact congrArg tmsA hV)
   have hV : [] = mdL m s.Value s.Way := by unfold mdL; rw [if_neg (by omega), if_neg (by omega), if_neg (by omega), if_pos hw4, if_neg (by omega)]
   apply yf;apply yb;refine yd ?_;refine X.ret ?_;refine RetQ.imp (yn (ts := [(4, tmsA [])]) (hs := [])) ?_;refine yh ?_;all_goals (first | exact congrArg tmsA hV | rfl)
  ·apply yb;refine yg ?_;refine yj rfl ?_ ?_<;>intro hc10
   ·have hV : [durT m s.Value] = mdL m s.Value s.Way := by unfold mdL; rw [if_neg (by omega), if_neg (by omega), if_neg (by omega), if_neg (by omega), if_pos hc10]
    apply yb;refine ya ?_;refine yO tmE [durT m s.Value] ?_;refine yd ?_;refine X.ret ?_;refine RetQ.imp (Imp.freeze (k := 89) rfl) ?_;refine yh ?_;all_goals (first | exact congrArg tmsA hV | rfl)
   apply yb;refine yg ?_;refine yj rfl ?_ ?_<;>intro hc11
   ·have hV : [tmkT ((durT m s.Value).N * 3) ((durT m s.Value).D * 2)] = mdL m s.Value s.Way := by unfold mdL; rw [if_neg (by omega), if_neg (by omega), if_neg (by omega), if_neg (by omega), if_neg (by omega), if_pos hc11]
    apply yb;refine ya ?_;refine ym (zah (durT m s.Value) 3 2 (by omega) (by omega)) ?_;refine yd ?_;refine X.ret ?_;refine yh ?_;all_goals (exact congrArg tmsA hV)
   apply yb;refine yg ?_;refine yj rfl ?_ ?_<;>intro hc12
   ·have hw7 : s.Way = 7 := hc12;apply ye;apply yb;refine ya ?_;refine ym (zr m 4) ?_;refine ya ?_;refine ExF.at 3 ?_;refine yG ?_;(iterate 2 refine ExF.gi ?_);refine yE ?_;refine yd ?_;refine yj rfl ?_ ?_<;>intro hc13
    ·have hV : [⟨3, 2⟩] = mdL m s.Value s.Way := by unfold mdL; rw [if_neg (by omega), if_neg (by omega), if_neg (by omega), if_neg (by omega), if_neg (by omega), if_neg (by omega), if_pos hw7, if_pos hc13]
     apply yb;refine ya ?_;refine yO tmE [⟨3, 2⟩] ?_;refine yd ?_;refine X.ret ?_;refine RetQ.imp (Imp.freeze (k := 104) rfl) ?_;refine yh ?_;all_goals (first | exact congrArg tmsA hV | rfl)
    apply yf;apply yb;refine ya ?_;refine ym (zr m 4) ?_;refine ya ?_;refine ExF.at 3 ?_;refine yG ?_;(iterate 2 refine ExF.gi ?_);refine yE ?_;refine yd ?_;refine yj rfl ?_ ?_<;>intro hc14
    ·have hV : [⟨1, 2⟩] = mdL m s.Value s.Way := by unfold mdL; rw [if_neg (by omega), if_neg (by omega), if_neg (by omega), if_neg (by omega), if_neg (by omega), if_neg (by omega), if_pos hw7, if_neg (by omega), if_pos hc14]
     apply yb;refine ya ?_;refine yO tmE [⟨1, 2⟩] ?_;refine yd ?_;refine X.ret ?_;refine RetQ.imp (Imp.freeze (k := 113) rfl) ?_;refine yh ?_;all_goals (first | exact congrArg tmsA hV | rfl)
    have hV : [] = mdL m s.Value s.Way := by unfold mdL; rw [if_neg (by omega), if_neg (by omega), if_neg (by omega), if_neg (by omega), if_neg (by omega), if_neg (by omega), if_pos hw7, if_neg (by omega), if_neg (by omega)]
    apply yf;apply yb;refine yd ?_;refine X.ret ?_;refine RetQ.imp (yn (ts := [(4, tmsA [])]) (hs := [])) ?_;refine yh ?_;all_goals (first | exact congrArg tmsA hV | rfl)
   ·omega
end Go.Rse
namespace Go.Rse
open Go Go.Proofs
attribute [local irreducible] Pur yD yF Ex X Fn Imp LeV LeB FnO It yH
def mdB (m : Mn) (v : Int) : Bool := (List.range 8).all fun i => zpB (wdL m v (1 + i)) (mdL m v (1 + (i : Int))) && decide ((mdL m v (1 + (i : Int))).length <= 81)
theorem zoc : zfm mdB = true := by kernel_rfl
theorem zqX {m : Mn} {v : Int} (hm : ckM m = 0) (h1 : 1 <= v) (h8 : v <= 8) {i : Nat} (hi : i < 8) : (∀ x, x ∈ mdL m v (1 + (i : Int)) ↔ x ∈ wdL m v (1 + (i : Int)).toNat) /\ (mdL m v (1 + (i : Int))).Pairwise ltT /\ (mdL m v (1 + (i : Int))).length <= 81 := by
 have h := List.all_eq_true.1 (show (List.range 8).all _ = true from zbv zoc hm h1 h8) i (List.mem_range.2 hi);rw [Bool.and_eq_true] at h;have h2 := h.1;unfold zpB at h2;simp only [Bool.and_eq_true, List.all_eq_true, decide_eq_true_eq] at h2;rw [show (1 + (i : Int)).toNat = 1 + i by omega];exact ⟨fun x => ⟨h2.1.2 x, fun hx => (h2.1.1 x hx).2⟩, h2.2, of_decide_eq_true h.2⟩
attribute [local irreducible] cmpV subV yx insT rlN rlL tmkT durT mdL wdL alO alI allE bthE zbB
set_option maxHeartbeats 4000000 in
theorem zey (m : Mn) (t : Tm) : Fn Tryz.prog 97 [mnA m, tmA t] (.tup [spsA (allE m t), iv (bthE m t)]) := by
 refine Fn.go Tryz.func97 Tryz.ntmps97 (fun g w d => ?_);apply yb;iterate 2 refine yA ?_
 iterate 2 refine ya ?_
 apply yk;iterate 2 refine ya ?_
 refine ym (zd5 m t) ?_;refine yd ?_;apply ye;apply yb;refine yg ?_;refine yj rfl ?_ ?_<;>intro hc1
 ·have hV : [] = allE m t := by unfold allE; rw [if_neg hc1]
  apply yb;refine yo ?_;refine X.ret ?_;refine RetQ.imp (yn (ts := [(4, spsA []), (5, iv (bthE m t))]) (hs := [])) ?_;refine yw ?_ ?_;all_goals (first | exact congrArg spsA hV | rfl | exact congrArg (AV.int .i64) hc1.symm)
 apply yf;apply yb;refine yd ?_;iterate 2 apply ye
 refine X.imp (yZ spE 127 5 7 7 rfl rfl) ?_;apply yc;refine yd ?_;apply X.block;have hq0 : [] = alO m t 0 := by unfold alO; rfl
 have hck := (zmW hc1).1
 refine zb (ι := Nat) (fun (j : Nat) => [(2, .ptr 2 0 0 0), (3, .ptr 3 0 0 0), (7, .own 7), (8, iv (1 + (j : Int)))]) (fun (j : Nat) => [(2, .box (mnE m) 23), (3, .box (tmE t) 40), (7, .row spE (alO m t j) 127 5)]) (fun (j : Nat) => j <= 8) (fun (j : Nat) => 8 - j) 0 (fun j hk => ?_) (h0 := by
  exact yp)
 apply ye;apply yb;refine yg ?_;refine yj rfl ?_ ?_<;>intro hc2
 ·apply yf;apply ye;apply X.block;apply yb;refine yd ?_;apply X.block;have hq1 : alO m t j = alO m t j ++ alI m t (1 + (j : Int)) (1 + 0) := by unfold alI; simp [alI]
  have hol := zfT m t j
  refine zb (ι := Nat) (fun (i : Nat) => [(2, .ptr 2 0 0 0), (3, .ptr 3 0 0 0), (7, .own 7), (8, iv (1 + (j : Int))), (9, iv (1 + (i : Int)))]) (fun (i : Nat) => [(2, .box (mnE m) 23), (3, .box (tmE t) 40), (7, .row spE (alO m t j ++ alI m t (1 + (j : Int)) (1 + i)) 127 5)]) (fun (i : Nat) => i <= 8) (fun (i : Nat) => 8 - i) 0 (fun i hk => ?_) (h0 := by
   exact yp)
  apply ye;apply yb;refine yg ?_;refine yj rfl ?_ ?_<;>intro hc3
  ·obtain ⟨hdm, hdp, hdl⟩ := zqX hck (v := 1 + (j : Int)) (by omega) (by omega) (i := i) (by omega);have hMd := zd7 m hck (spOf (1 + (j : Int)) (1 + (i : Int))) (by show 1 <= 1 + (j : Int); omega) (by show 1 + (j : Int) <= 8; omega) (by show 1 <= 1 + (i : Int); omega) (by show 1 + (i : Int) <= 8; omega);rw [show mdL m (spOf (1 + (j : Int)) (1 + (i : Int))).Value (spOf (1 + (j : Int)) (1 + (i : Int))).Way = mdL m (1 + (j : Int)) (1 + (i : Int)) from rfl] at hMd;generalize mdL m (1 + (j : Int)) (1 + (i : Int)) = D at hMd hdm hdp hdl;apply yf;apply ye;apply X.block;apply ye;refine zo [10,26,27,28,29,30] [0,0,0,6,15,31] mo ?_;(iterate 3 refine yi ?_);refine y8 (zbE (1 + (j : Int)) (1 + (i : Int))) ?_;refine y8 hMd ?_;refine yi ?_;refine yR ?_;apply yk;refine yd ?_;apply X.block;have hq2 := zqs (alO m t j ++ alI m t (1 + (j : Int)) (1 + i)) (spOf (1 + (j : Int)) (1 + (i : Int))) t D;have hil := zfS m t (1 + (j : Int)) (1 + i)
   refine zb (ι := Nat) (fun (q : Nat) => [(2, .ptr 2 0 0 0), (3, .ptr 3 0 0 0), (7, .own 7), (8, iv (1 + (j : Int))), (9, iv (1 + (i : Int))), (10, tmsA D), (11, iv (q : Int))]) (fun (q : Nat) => [(2, .box (mnE m) 23), (3, .box (tmE t) 40), (7, .row spE (zbB (alO m t j ++ alI m t (1 + (j : Int)) (1 + i)) (spOf (1 + (j : Int)) (1 + (i : Int))) t D q) 127 5)]) (fun (q : Nat) => q <= D.length) (fun (q : Nat) => D.length - q) 0 (fun q hk => ?_) (h0 := by
    exact yp)
   apply ye;apply yb;refine zx ?_;refine yj rfl ?_ ?_<;>intro hc4
   ·obtain ⟨u, hu⟩ : ∃ u, D[q]? = some u := ⟨_, lgg (by omega)⟩;have hu2 : D[(q : Int).toNat]? = some u := by simpa using hu
    have hsl := zml (alO m t j ++ alI m t (1 + (j : Int)) (1 + i)) (spOf (1 + (j : Int)) (1 + (i : Int))) t D q;rw [List.length_append] at hsl;apply yf;apply ye;apply X.block;apply ye;refine zo [37,38,39,40,41,42] [0,0,3,7,0,31] mo ?_;(iterate 6 refine yi ?_);refine yR ?_;apply Ex.nil;refine yj rfl ?_ ?_<;>intro hc5
    ·have hst := zmk (X := alO m t j ++ alI m t (1 + (j : Int)) (1 + i)) (s := (spOf (1 + (j : Int)) (1 + (i : Int)))) hu hc5 hdp;apply yc;(iterate 3 refine ya ?_);refine ym (zbE (1 + (j : Int)) (1 + (i : Int))) ?_;refine yO spE [spOf (1 + (j : Int)) (1 + (i : Int))] ?_;refine Ex.mo ?_;refine yd ?_;apply yc;refine yo ?_;refine yJ (q + 1) (hI := yp)
    ·have hst := znL (X := alO m t j ++ alI m t (1 + (j : Int)) (1 + i)) (s := (spOf (1 + (j : Int)) (1 + (i : Int)))) hu hc5;apply yf;apply yc;refine yo ?_;refine yJ (q + 1) (hI := yp)
   ·have hqD : q = D.length := by omega
    subst hqD;have hst := zmm (t := t) hdm (alO m t j);apply X.exit;apply yc;refine yo ?_;refine yJ (i + 1) (hI := yp)
  ·have hi8 : i = 8 := by omega
   subst hi8;have hst : alO m t j ++ alI m t (1 + (j : Int)) (1 + 8) = alO m t (j + 1) := by conv => rhs; unfold alO
   apply X.exit;apply yc;refine yo ?_;refine yJ (j + 1) (hI := yp)
 ·have hj8 : j = 8 := by omega
  subst hj8;have hV : alO m t 8 = allE m t := by unfold allE; rw [if_pos hc1]
  apply X.exit;apply yb;refine yo ?_;refine X.ret ?_;refine RetQ.imp (Imp.freeze (k := 7) rfl) ?_;refine yw ?_ ?_;all_goals (first | exact congrArg spsA hV | rfl | exact congrArg (AV.int .i64) hc1.symm)
end Go.Rse
