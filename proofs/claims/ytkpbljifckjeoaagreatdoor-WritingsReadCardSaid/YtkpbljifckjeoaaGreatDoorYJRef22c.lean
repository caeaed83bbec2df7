/-
  Walks.
-/
import Derived.Test.YtkpbljifckjeoaaGreatDoorYJSpell5
set_option linter.unusedSimpArgs false
set_option linter.unusedVariables false
namespace Go.Rse
open Go Go.Proofs
section
attribute [local irreducible] Pur yr yw Ex X Fn Imp LeV LeB FnO It yx
def mdL (m : Mn) (v y : Int) : List Tm :=
 if y = 1 \/ y = 8 then [yq m v]
 else if y = 2 then (if m.p v = 2 then [tmkT ((yq m v).N * 3) ((yq m v).D * 2)] else [])
 else if y = 3 then (rlL m v (5 - v).toNat v (yq m v)).filter fun x => !decide (x = yq m v)
 else if y = 4 then (if (2 <= v /\ v <= 5) /\ m.p (v - 1) = 3 then [tmkT ((yq m v).N * 2) ((yq m v).D * 1)] else [])
 else if y = 5 then [durT m v]
 else if y = 6 then [tmkT ((durT m v).N * 3) ((durT m v).D * 2)]
 else if y = 7 then (if m.p 4 = 2 /\ v = 4 then [⟨3, 2⟩] else if m.p 4 = 2 /\ v = 5 then [⟨1, 2⟩] else [])
 else []
def duB (m : Mn) (v : Int) : Bool := decide (0 <= (durT m v).N) && decide ((durT m v).N <= 1000) && decide (0 <= (durT m v).D) && decide ((durT m v).D <= 1000)
theorem zpB : zgM duB = true := by kernel_rfl
theorem zut {m : Mn} {v : Int} (hm : ckM m = 0) (h1 : 1 <= v) (h8 : v <= 8) : 0 <= (durT m v).N /\ (durT m v).N <= 1000 /\ 0 <= (durT m v).D /\ (durT m v).D <= 1000 := by
 have h := zcw zpB hm h1 h8;unfold duB at h;simp only [Bool.and_eq_true, decide_eq_true_eq] at h;exact ⟨h.1.1.1, h.1.1.2, h.1.2, h.2⟩
theorem znG {L : List Tm} {F u : Tm} {k : Nat} (h : L[k]? = some u) : (L.take (k + 1)).filter (fun x => !decide (x = F)) = (L.take k).filter (fun x => !decide (x = F)) ++ (if u = F then [] else [u]) := by
 rw [List.take_add_one, h, List.filter_append];by_cases e : u = F <;> simp [e]
attribute [local irreducible] cmpV subV yq insT rlN rlL tmkT durT mdL
set_option maxHeartbeats 4000000 in
theorem zeA (m : Mn) (hm : ckM m = 0) (s : Sp) (hV1 : 1 <= s.Value) (hV8 : s.Value <= 8) (hW1 : 1 <= s.Way) (hW8 : s.Way <= 8) : Fn Tryz.prog 118 [mnA m, spA s] (tmsA (mdL m s.Value s.Way)) := by
 have hF := zt5 hm hV1 hV8;have hf1 := hF.n;have hf2 := hF.n1;have hf3 := hF.d;have hf4 := (zbp hF.ck).2.2.2.2.1;obtain ⟨hd1, hd2, hd3, hd4⟩ := zut hm hV1 hV8;have hDur := zeU m s.Value;rw [zkG hm hV1 hV8, if_pos rfl] at hDur;obtain ⟨D, hD⟩ : ∃ D, D = rlL m s.Value (5 - s.Value).toNat s.Value (yq m s.Value) := ⟨_, rfl⟩;have hLo := zeC m hm s.Value hV1 (5 - s.Value).toNat s.Value (yq m s.Value) rfl hV1 hV8;rw [← hD] at hLo;have hDl := zgt m s.Value (5 - s.Value).toNat s.Value (yq m s.Value);rw [← hD] at hDl;have hp4 : 3 ^ (5 - s.Value).toNat <= 3 ^ 4 := Nat.pow_le_pow_right (by decide) (by omega);have hp5 : 3 ^ 4 = 81 := rfl;refine Fn.go Tryz.func118 Tryz.ntmps118 (fun g w d => ?_);refine gq ?_;refine yb (zaA hm hV1 hV8) ?_;refine gq ?_;refine yb hDur ?_;iterate 3 refine ya ?_
 refine zB ?_;refine Ex.mo ?_;refine yu ?_;apply yl;apply yg;refine zm ?_;apply X.block;refine zdS ⟨[(2, .ptr 2 0 0 0), (5, iv s.Value), (6, .ptr 6 0 0 0), (8, .ptr 8 0 0 0), (28, iv s.Way), (29, .bool (decide (s.Way = 1 \/ s.Way = 8)))], [(2, .box (mnE m) 32), (6, .box (tmE (yq m s.Value)) 25), (8, .box (tmE (durT m s.Value)) 25)]⟩ (fun hJ7 => ?_) ?_
 ·refine gd ?_ ?_<;>intro hc1
  ·have hb : decide (s.Way = 1) = decide (s.Way = 1 \/ s.Way = 8) := by simp [hc1]
   apply yp;exact X.imp yd hJ7
  ·have hb : decide (s.Way = 8) = decide (s.Way = 1 \/ s.Way = 8) := by simp [hc1]
   apply ym;refine zm ?_;exact X.imp yd hJ7
 refine ztm rfl ?_ ?_<;>intro hc2
 ·have hV : [yq m s.Value] = mdL m s.Value s.Way := by unfold mdL; rw [if_pos hc2]
  refine gq ?_;refine yJ tmE [yq m s.Value] ?_;refine yu ?_;refine X.ret ?_;refine RetQ.imp (Imp.freeze (k := 33) rfl) ?_;refine gq ?_;all_goals (first | exact congrArg tmsA hV | rfl)
 refine gd ?_ ?_<;>intro hc3
 ·have hw2 : s.Way = 2 := hc3;refine gq ?_;refine yb (zq m s.Value) ?_;refine gd ?_ ?_<;>intro hc4
  ·have hV : [tmkT ((yq m s.Value).N * 3) ((yq m s.Value).D * 2)] = mdL m s.Value s.Way := by unfold mdL; rw [if_neg (by omega), if_pos hw2, if_pos hc4]
   refine gq ?_;refine yb (zam (yq m s.Value) 3 2 (by omega) (by omega)) ?_;refine gq ?_;all_goals (exact congrArg tmsA hV)
  have hV : [] = mdL m s.Value s.Way := by unfold mdL; rw [if_neg (by omega), if_pos hw2, if_neg hc4]
  apply yp;apply yg;refine yu ?_;refine X.ret ?_;refine RetQ.imp (ye (ts := [(4, tmsA [])]) (hs := [])) ?_;refine gq ?_;all_goals (first | exact congrArg tmsA hV | rfl)
 ·refine gd ?_ ?_<;>intro hc5
  ·have hw3 : s.Way = 3 := hc5;apply yg;refine yu ?_;apply yl;refine X.imp (yL tmE 25 2 10 10 rfl rfl) ?_;refine gq ?_;refine yb hLo ?_;refine yu ?_;apply yl;apply yg;refine yu ?_;apply X.block;have hq0 : [] = (D.take 0).filter (fun x => !decide (x = yq m s.Value)) := by simp
   refine yS (ι := Nat) (fun k => [(6, .ptr 6 0 0 0), (10, .own 10), (11, tmsA D), (12, iv (k : Int))]) (fun k => [(6, .box (tmE (yq m s.Value)) 25), (10, .row tmE ((D.take k).filter (fun x => !decide (x = yq m s.Value))) 25 2)]) (fun (k : Nat) => k <= D.length) (fun (k : Nat) => D.length - k) 0 (fun k hk => ?_) (h0 := by exact yd)
   refine gd ?_ ?_<;>intro hc6
   ·obtain ⟨u, hu⟩ : ∃ u, D[k]? = some u := ⟨_, lgg (by omega)⟩;have hu2 : D[(k : Int).toNat]? = some u := by simpa using hu
    have hst := znG (F := yq m s.Value) hu;have hfl := List.length_filter_le (fun x => !decide (x = yq m s.Value)) (D.take k);have htl : (D.take k).length <= D.length := by rw [List.length_take]; omega
    refine gq ?_;refine zf [55,56,57,58,59,60] [0,0,3,7,0,31] mo ?_;(iterate 6 refine yc ?_);refine yE ?_;refine gd ?_ ?_<;>intro hc7
    ·rw [if_neg hc7] at hst;have hst2 := hst.symm;refine gq ?_;refine yJ tmE [u] ?_;refine gq ?_;refine yz (k + 1) (hI := yd)
    ·rw [if_pos hc7, List.append_nil] at hst;have hst2 := hst.symm;refine gq ?_;refine yz (k + 1) (hI := yd)
   ·have hkD : k = D.length := by omega
    subst hkD;have hV : (D.take D.length).filter (fun x => !decide (x = yq m s.Value)) = mdL m s.Value s.Way := by unfold mdL; rw [if_neg (by omega), if_neg (by omega), if_pos hw3, List.take_length, hD]
    apply X.exit;apply yg;refine zm ?_;refine X.ret ?_;refine RetQ.imp (Imp.freeze (k := 10) rfl) ?_;refine gq ?_;all_goals (first | exact congrArg tmsA hV | rfl)
  refine gd ?_ ?_<;>intro hc8
  ·have hw4 : s.Way = 4 := hc8;apply yg;(iterate 2 refine ya ?_);refine ExF.at 2 ?_;refine gq ?_;refine ExF.cg (zq m (s.Value - 1)) ?_;refine ExF.gi ?_;refine gf ?_ ?_<;>intro hc9
   ·have hV : [tmkT ((yq m s.Value).N * 2) ((yq m s.Value).D * 1)] = mdL m s.Value s.Way := by unfold mdL; rw [if_neg (by omega), if_neg (by omega), if_neg (by omega), if_pos hw4, if_pos hc9]
    refine gq ?_;refine yb (zam (yq m s.Value) 2 1 (by omega) (by omega)) ?_;refine gq ?_;all_goals (exact congrArg tmsA hV)
   have hV : [] = mdL m s.Value s.Way := by unfold mdL; rw [if_neg (by omega), if_neg (by omega), if_neg (by omega), if_pos hw4, if_neg (by omega)]
   apply yp;apply yg;refine yu ?_;refine X.ret ?_;refine RetQ.imp (ye (ts := [(4, tmsA [])]) (hs := [])) ?_;refine gq ?_;all_goals (first | exact congrArg tmsA hV | rfl)
  ·refine gd ?_ ?_<;>intro hc10
   ·have hV : [durT m s.Value] = mdL m s.Value s.Way := by unfold mdL; rw [if_neg (by omega), if_neg (by omega), if_neg (by omega), if_neg (by omega), if_pos hc10]
    refine gq ?_;refine yJ tmE [durT m s.Value] ?_;refine yu ?_;refine X.ret ?_;refine RetQ.imp (Imp.freeze (k := 89) rfl) ?_;refine gq ?_;all_goals (first | exact congrArg tmsA hV | rfl)
   refine gd ?_ ?_<;>intro hc11
   ·have hV : [tmkT ((durT m s.Value).N * 3) ((durT m s.Value).D * 2)] = mdL m s.Value s.Way := by unfold mdL; rw [if_neg (by omega), if_neg (by omega), if_neg (by omega), if_neg (by omega), if_neg (by omega), if_pos hc11]
    refine gq ?_;refine yb (zam (durT m s.Value) 3 2 (by omega) (by omega)) ?_;refine gq ?_;all_goals (exact congrArg tmsA hV)
   refine gd ?_ ?_<;>intro hc12
   ·have hw7 : s.Way = 7 := hc12;refine gq ?_;refine yb (zq m 4) ?_;refine ya ?_;refine ExF.at 3 ?_;refine yA ?_;(iterate 2 refine ExF.gi ?_);refine gf ?_ ?_<;>intro hc13
    ·have hV : [⟨3, 2⟩] = mdL m s.Value s.Way := by unfold mdL; rw [if_neg (by omega), if_neg (by omega), if_neg (by omega), if_neg (by omega), if_neg (by omega), if_neg (by omega), if_pos hw7, if_pos hc13]
     refine gq ?_;refine yJ tmE [⟨3, 2⟩] ?_;refine yu ?_;refine X.ret ?_;refine RetQ.imp (Imp.freeze (k := 104) rfl) ?_;refine gq ?_;all_goals (first | exact congrArg tmsA hV | rfl)
    refine gq ?_;refine yb (zq m 4) ?_;refine ya ?_;refine ExF.at 3 ?_;refine yA ?_;(iterate 2 refine ExF.gi ?_);refine gf ?_ ?_<;>intro hc14
    ·have hV : [⟨1, 2⟩] = mdL m s.Value s.Way := by unfold mdL; rw [if_neg (by omega), if_neg (by omega), if_neg (by omega), if_neg (by omega), if_neg (by omega), if_neg (by omega), if_pos hw7, if_neg (by omega), if_pos hc14]
     refine gq ?_;refine yJ tmE [⟨1, 2⟩] ?_;refine yu ?_;refine X.ret ?_;refine RetQ.imp (Imp.freeze (k := 113) rfl) ?_;refine gq ?_;all_goals (first | exact congrArg tmsA hV | rfl)
    have hV : [] = mdL m s.Value s.Way := by unfold mdL; rw [if_neg (by omega), if_neg (by omega), if_neg (by omega), if_neg (by omega), if_neg (by omega), if_neg (by omega), if_pos hw7, if_neg (by omega), if_neg (by omega)]
    apply yp;apply yg;refine yu ?_;refine X.ret ?_;refine RetQ.imp (ye (ts := [(4, tmsA [])]) (hs := [])) ?_;refine gq ?_;all_goals (first | exact congrArg tmsA hV | rfl)
   ·omega
end
section
attribute [local irreducible] Pur yr yw Ex X Fn Imp LeV LeB FnO It yx
def mdB (m : Mn) (v : Int) : Bool := (List.range 8).all fun i => zro (wdL m v (1 + i)) (mdL m v (1 + (i : Int))) && decide ((mdL m v (1 + (i : Int))).length <= 81)
theorem zpC : zgM mdB = true := by kernel_rfl
theorem zsm {m : Mn} {v : Int} (hm : ckM m = 0) (h1 : 1 <= v) (h8 : v <= 8) {i : Nat} (hi : i < 8) : (∀ x, x ∈ mdL m v (1 + (i : Int)) ↔ x ∈ wdL m v (1 + (i : Int)).toNat) /\ (mdL m v (1 + (i : Int))).Pairwise ltT /\ (mdL m v (1 + (i : Int))).length <= 81 := by
 have h := List.all_eq_true.1 (show (List.range 8).all _ = true from zcw zpC hm h1 h8) i (List.mem_range.2 hi);rw [Bool.and_eq_true] at h;have h2 := h.1;unfold zro at h2;simp only [Bool.and_eq_true, List.all_eq_true, decide_eq_true_eq] at h2;rw [show (1 + (i : Int)).toNat = 1 + i by omega];exact ⟨fun x => ⟨h2.1.2 x, fun hx => (h2.1.1 x hx).2⟩, h2.2, of_decide_eq_true h.2⟩
attribute [local irreducible] cmpV subV yq insT rlN rlL tmkT durT mdL wdL alO alI allE bthE zbU
set_option maxHeartbeats 4000000 in
theorem ze5 (m : Mn) (t : Tm) : Fn Tryz.prog 88 [mnA m, tmA t] (.tup [spsA (allE m t), iv (bthE m t)]) := by
 refine Fn.go Tryz.func88 Tryz.ntmps88 (fun g w d => ?_);refine gq ?_;refine yb (zeB m t) ?_;refine gd ?_ ?_<;>intro hc1
 ·have hV : [] = allE m t := by unfold allE; rw [if_neg hc1]
  apply yg;refine zh ?_;refine X.ret ?_;refine RetQ.imp (ye (ts := [(4, spsA []), (5, iv (bthE m t))]) (hs := [])) ?_;refine yi ?_ ?_;all_goals (first | exact congrArg spsA hV | rfl | exact congrArg (AV.int .i64) hc1.symm)
 apply yp;apply yg;refine yu ?_;iterate 2 apply yl
 refine X.imp (yL spE 130 5 7 7 rfl rfl) ?_;apply ym;refine yu ?_;apply X.block;have hq0 : [] = alO m t 0 := by unfold alO; rfl
 have hck := (znV hc1).1
 refine yS (ι := Nat) (fun j => [(2, .ptr 2 0 0 0), (3, .ptr 3 0 0 0), (7, .own 7), (8, iv (1 + (j : Int)))]) (fun j => [(2, .box (mnE m) 32), (3, .box (tmE t) 25), (7, .row spE (alO m t j) 130 5)]) (fun (j : Nat) => j <= 8) (fun (j : Nat) => 8 - j) 0 (fun j hk => ?_) (h0 := by exact yd)
 refine gd ?_ ?_<;>intro hc2
 ·apply yp;apply yl;apply X.block;apply yg;refine yu ?_;apply X.block;have hq1 : alO m t j = alO m t j ++ alI m t (1 + (j : Int)) (1 + 0) := by unfold alI; simp [alI]
  have hol := zgo m t j
  refine yS (ι := Nat) (fun i => [(2, .ptr 2 0 0 0), (3, .ptr 3 0 0 0), (7, .own 7), (8, iv (1 + (j : Int))), (9, iv (1 + (i : Int)))]) (fun i => [(2, .box (mnE m) 32), (3, .box (tmE t) 25), (7, .row spE (alO m t j ++ alI m t (1 + (j : Int)) (1 + i)) 130 5)]) (fun (i : Nat) => i <= 8) (fun (i : Nat) => 8 - i) 0 (fun i hk => ?_) (h0 := by exact yd)
  refine gd ?_ ?_<;>intro hc3
  ·obtain ⟨hdm, hdp, hdl⟩ := zsm hck (v := 1 + (j : Int)) (by omega) (by omega) (i := i) (by omega);have hMd := zeA m hck (spOf (1 + (j : Int)) (1 + (i : Int))) (by show 1 <= 1 + (j : Int); omega) (by show 1 + (j : Int) <= 8; omega) (by show 1 <= 1 + (i : Int); omega) (by show 1 + (i : Int) <= 8; omega);rw [show mdL m (spOf (1 + (j : Int)) (1 + (i : Int))).Value (spOf (1 + (j : Int)) (1 + (i : Int))).Way = mdL m (1 + (j : Int)) (1 + (i : Int)) from rfl] at hMd;generalize mdL m (1 + (j : Int)) (1 + (i : Int)) = D at hMd hdm hdp hdl;refine gq ?_;refine zf [10,26,27,28,29,30] [0,0,0,6,15,31] mo ?_;(iterate 3 refine yc ?_);refine yM (zbW (1 + (j : Int)) (1 + (i : Int))) ?_;refine yM hMd ?_;refine yc ?_;refine yE ?_;apply yI;refine yu ?_;apply X.block;have hq2 := zsv (alO m t j ++ alI m t (1 + (j : Int)) (1 + i)) (spOf (1 + (j : Int)) (1 + (i : Int))) t D;have hil := zgn m t (1 + (j : Int)) (1 + i)
   refine yS (ι := Nat) (fun q => [(2, .ptr 2 0 0 0), (3, .ptr 3 0 0 0), (7, .own 7), (8, iv (1 + (j : Int))), (9, iv (1 + (i : Int))), (10, tmsA D), (11, iv (q : Int))]) (fun q => [(2, .box (mnE m) 32), (3, .box (tmE t) 25), (7, .row spE (zbU (alO m t j ++ alI m t (1 + (j : Int)) (1 + i)) (spOf (1 + (j : Int)) (1 + (i : Int))) t D q) 130 5)]) (fun (q : Nat) => q <= D.length) (fun (q : Nat) => D.length - q) 0 (fun q hk => ?_) (h0 := by exact yd)
   refine gd ?_ ?_<;>intro hc4
   ·obtain ⟨u, hu⟩ : ∃ u, D[q]? = some u := ⟨_, lgg (by omega)⟩;have hu2 : D[(q : Int).toNat]? = some u := by simpa using hu
    have hsl := znY (alO m t j ++ alI m t (1 + (j : Int)) (1 + i)) (spOf (1 + (j : Int)) (1 + (i : Int))) t D q;rw [List.length_append] at hsl;refine gq ?_;refine zf [37,38,39,40,41,42] [0,0,3,7,0,31] mo ?_;(iterate 6 refine yc ?_);refine yE ?_;refine gd ?_ ?_<;>intro hc5
    ·have hst := znX (X := alO m t j ++ alI m t (1 + (j : Int)) (1 + i)) (s := (spOf (1 + (j : Int)) (1 + (i : Int)))) hu hc5 hdp;refine gq ?_;refine yb (zbW (1 + (j : Int)) (1 + (i : Int))) ?_;refine yJ spE [spOf (1 + (j : Int)) (1 + (i : Int))] ?_;refine gq ?_;refine yz (q + 1) (hI := yd)
    ·have hst := zpO (X := alO m t j ++ alI m t (1 + (j : Int)) (1 + i)) (s := (spOf (1 + (j : Int)) (1 + (i : Int)))) hu hc5;refine gq ?_;refine yz (q + 1) (hI := yd)
   ·have hqD : q = D.length := by omega
    subst hqD;have hst := znZ (t := t) hdm (alO m t j);refine gq ?_;refine yz (i + 1) (hI := yd)
  ·have hi8 : i = 8 := by omega
   subst hi8;have hst : alO m t j ++ alI m t (1 + (j : Int)) (1 + 8) = alO m t (j + 1) := by conv => rhs; unfold alO
   refine gq ?_;refine yz (j + 1) (hI := yd)
 ·have hj8 : j = 8 := by omega
  subst hj8;have hV : alO m t 8 = allE m t := by unfold allE; rw [if_pos hc1]
  apply X.exit;apply yg;refine zh ?_;refine X.ret ?_;refine RetQ.imp (Imp.freeze (k := 7) rfl) ?_;refine yi ?_ ?_;all_goals (first | exact congrArg spsA hV | rfl | exact congrArg (AV.int .i64) hc1.symm)
end
end Go.Rse
