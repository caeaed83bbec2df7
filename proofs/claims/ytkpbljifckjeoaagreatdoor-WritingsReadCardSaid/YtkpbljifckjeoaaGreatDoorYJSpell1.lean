/-
  Walks.
-/
import Derived.Test.YtkpbljifckjeoaaGreatDoorYJFull1
import Derived.Test.YtkpbljifckjeoaaGreatDoorYShelf0
import Derived.Sort.OwnSortedInts
set_option linter.unusedSimpArgs false
set_option linter.unusedVariables false
namespace Go.Rse
open Go Go.Proofs
section
attribute [local irreducible] Pur yr yw Ex X LeV LeB FnO It yx
attribute [local irreducible] Fn
def bthE (m : Mn) (t : Tm) : Int := if ckM m = 0 then ckT t else ckM m
theorem znV {m : Mn} {t : Tm} (h : bthE m t = 0) : ckM m = 0 /\ ckT t = 0 := by
 unfold bthE at h; split at h
 ·exact ⟨by assumption, h⟩
 ·exact absurd h (by assumption)
attribute [local irreducible] yq durT mulV mulE yP bthE
theorem zja (m : Mn) (t : Tm) : Fn Tryz.prog 109 [mnA m, tmA t] (iv (bthE m t)) := by
 refine Fn.go Tryz.func109 Tryz.ntmps109 (fun g w d => ?_);refine gq ?_;refine yb (zat m) ?_;refine gd ?_ ?_<;>intro hc1
 ·refine gq ?_;all_goals (unfold bthE; first | (rw [if_neg hc1]; done) | (rw [if_pos hc1]; done))
 refine gq ?_;refine yb (zbF t) ?_;refine gq ?_;all_goals (unfold bthE; first | (rw [if_neg hc1]; done) | (rw [if_pos hc1]; done))
theorem zas (m : Mn) (v : Int) (hm : ckM m = 0) (h1 : 1 <= v) (h8 : v <= 8) : Fn Tryz.prog 140 [mnA m, iv v] (tmA (yq m v)) := by
 refine Fn.go Tryz.func140 Tryz.ntmps140 (fun g w d => ?_);refine gq ?_;refine yb (zbC hm h1 h8) ?_;refine gq ?_;refine RetQ.ret (.one (.cellA rfl rfl rfl rfl ty25 (LeV.eq ?_)));all_goals (rfl)
theorem zbs (m : Mn) (v : Int) (hm : ckM m = 0) (h1 : 1 <= v) (h8 : v <= 8) : Fn Tryz.prog 142 [mnA m, iv v] (.bool (decide (m.p v = 3))) := by
 refine Fn.go Tryz.func142 Tryz.ntmps142 (fun g w d => ?_);refine gq ?_;refine yb (zem hm h1 h8) ?_;refine gq ?_;all_goals (rfl)
theorem zcn (t : Tm) (n q : Int) : Fn Tryz.prog 143 [tmA t, iv n, iv q] (tmsA [mulV t ⟨n, q⟩]) := by
 refine Fn.go Tryz.func143 Tryz.ntmps143 (fun g w d => ?_);refine gq ?_;refine yb (zcY t ⟨n, q⟩) ?_;refine gq ?_;refine yJ tmE [mulV t ⟨n, q⟩] ?_;refine yu ?_;refine X.ret ?_;refine RetQ.imp (Imp.freeze (k := 18) rfl) ?_;refine gq ?_;all_goals (rfl)
theorem zdy (m : Mn) (v : Int) (hm : ckM m = 0) (h1 : 1 <= v) (h8 : v <= 8) : Fn Tryz.prog 147 [mnA m, iv v] (tmA (durT m v)) := by
 have hD := zjL m v;rw [zkG hm h1 h8, if_pos rfl] at hD;refine Fn.go Tryz.func147 Tryz.ntmps147 (fun g w d => ?_);refine gq ?_;refine yb hD ?_;refine gq ?_;refine RetQ.ret (.one (.cellA rfl rfl rfl rfl ty25 (LeV.eq ?_)));all_goals (rfl)
end
section
attribute [local irreducible] Pur yr yw Ex X Fn Imp LeV LeB FnO It yx
def lsL (m : Mn) (v : Int) : Nat -> Int -> Tm -> Bool -> List Tm
 | 0, k, t, b => if b = true /\ 0 < t.N then [t] else []
 | n + 1, k, t, b => lsL m v n (k + 1) t b ++ (if m.p k = 3 then
  (if subE t (yq m (k + 1)) = 0 then lsL m v n (k + 1) (subV t (yq m (k + 1))) true ++
   (if v < k /\ subE (subV t (yq m (k + 1))) (yq m (k + 1)) = 0 then lsL m v n (k + 1) (subV (subV t (yq m (k + 1))) (yq m (k + 1))) true else []) else []) else [])
def lsT (m : Mn) (k : Int) (t : Tm) : Nat -> Tm
 | 0 => t
 | j + 1 => subV (lsT m k t j) (yq m (k + 1))
def lsR (m : Mn) (v : Int) (n : Nat) (k : Int) (t : Tm) (b : Bool) (L : List Tm) : Nat -> List Tm
 | 0 => L ++ lsL m v n (k + 1) t b
 | j + 1 => lsR m v n k t b L j ++ lsL m v n (k + 1) (lsT m k t (j + 1)) true
theorem zdX (m : Mn) (v : Int) : ∀ (n : Nat) (k : Int) (t : Tm) (b : Bool), (lsL m v n k t b).length <= 3 ^ n
 | 0, k, t, b => by unfold lsL; split <;> simp
 | n + 1, k, t, b => by
  have h0 := zdX m v n (k + 1) t b;have h1 := zdX m v n (k + 1) (subV t (yq m (k + 1))) true;have h2 := zdX m v n (k + 1) (subV (subV t (yq m (k + 1))) (yq m (k + 1))) true;have h3 : 3 ^ (n + 1) = 3 ^ n * 3 := Nat.pow_succ ..;unfold lsL;simp only [List.length_append];split
  ·split
   ·simp only [List.length_append];split
    ·omega
    ·simp; omega
   ·simp; omega
  ·simp; omega
theorem zjb (m : Mn) (v : Int) (n : Nat) (k : Int) (t : Tm) (b : Bool) (L : List Tm) : ∀ j, (lsR m v n k t b L j).length <= L.length + (j + 1) * 3 ^ n
 | 0 => by have := zdX m v n (k + 1) t b; unfold lsR; simp; omega
 | j + 1 => by
  have h1 := zjb m v n k t b L j;have h2 := zdX m v n (k + 1) (lsT m k t (j + 1)) true;have h3 : (j + 1 + 1) * 3 ^ n = (j + 1) * 3 ^ n + 3 ^ n := Nat.succ_mul ..;unfold lsR; simp only [List.length_append]; omega
theorem zsu {m : Mn} {v : Int} {n : Nat} {k : Int} {t : Tm} {b : Bool} {L : List Tm} (hp : ¬ m.p k = 3) : lsR m v n k t b L 0 = L ++ lsL m v (n + 1) k t b := by
 simp only [lsR, lsL, if_neg hp, List.append_nil]
theorem zuG {m : Mn} {v : Int} {n : Nat} {k : Int} {t : Tm} {b : Bool} {L : List Tm} (hp : m.p k = 3) (h : ¬ subE (lsT m k t 0) (yq m (k + 1)) = 0) : lsR m v n k t b L 0 = L ++ lsL m v (n + 1) k t b := by
 simp only [lsT] at h;simp only [lsR, lsL, if_pos hp, if_neg h, List.append_nil]
theorem zrm {m : Mn} {v : Int} {n : Nat} {k : Int} {t : Tm} {b : Bool} {L : List Tm} (hp : m.p k = 3) (h0 : subE (lsT m k t 0) (yq m (k + 1)) = 0) (h : ¬ v < k \/ ¬ subE (lsT m k t 1) (yq m (k + 1)) = 0) : lsR m v n k t b L 1 = L ++ lsL m v (n + 1) k t b := by
 simp only [lsT] at h h0;simp only [lsR, lsL, lsT, if_pos hp, if_pos h0];rw [if_neg (fun e => by rcases h with h | h; exact h e.1; exact h e.2)];simp
theorem zuH {m : Mn} {v : Int} {n : Nat} {k : Int} {t : Tm} {b : Bool} {L : List Tm} (hp : m.p k = 3) (h0 : subE (lsT m k t 0) (yq m (k + 1)) = 0) (h : v < k) (h1 : subE (lsT m k t 1) (yq m (k + 1)) = 0) : lsR m v n k t b L 2 = L ++ lsL m v (n + 1) k t b := by
 simp only [lsT] at h1 h0;simp only [lsR, lsL, lsT, if_pos hp, if_pos h0, if_pos (show v < k /\ _ from ⟨h, h1⟩)];simp
def wdL (m : Mn) (v : Int) (n : Nat) : List Tm :=
 if n = 1 \/ n = 8 then [yq m v]
 else if n = 2 then (if m.p v = 3 then [] else [mulV (yq m v) ⟨3, 2⟩])
 else if n = 3 then lsL m v (5 - v).toNat v (yq m v) false
 else if n = 4 then (if v = 1 \/ ¬ m.p (v - 1) = 3 then [] else [mulV (yq m v) ⟨2, 1⟩])
 else if n = 5 then [durT m v]
 else if n = 6 then [mulV (durT m v) ⟨3, 2⟩]
 else if n = 7 then (if m.Pro = 2 /\ v = 4 then [⟨3, 2⟩] else if m.Pro = 2 /\ v = 5 then [⟨1, 2⟩] else [])
 else []
def zrn : List AV := [.bool false, .bool false, .bool false, .nilf, .bool false, .bool false, .bool false, .fn 139 [], .bool false, .bool false, .bool true, .fn 141 [], .bool false, .bool false, .bool false, .fn 144 [], .bool false, .bool false, .bool false, .fn 145 [],
 .bool false, .bool true, .bool false, .fn 146 [], .bool false, .bool true, .bool true, .fn 148 [], .bool false, .bool true, .bool false, .fn 149 [], .bool true, .bool false, .bool false, .fn 150 []]
attribute [local irreducible] yq durT mulV mulE subV subE
theorem ziE.imp {P : Program} {C : Ctx} {rv : List ResultVar} {r : AV} {vs : List Value} {cs : List AV} {hs' : List (Nat × Blk)} {e : Exit} {st st' : St} (hi : Imp C st st') (h : ziE P C rv r vs cs hs' e st') : ziE P C rv r vs cs hs' e st := by
 obtain ⟨h1, ts, ex, h2, h3⟩ := h;exact ⟨h1, ts, ex, hi.trans h2, h3⟩
set_option maxHeartbeats 4000000 in
theorem zg5 (m : Mn) (hm : ckM m = 0) (v : Int) (n : Nat) (k : Int) (t : Tm) (b : Bool) (L : List Tm) (hn : (5 - k).toNat = n) (h1 : 1 <= k) (h8 : k <= 8) (hL : L.length + 3 ^ n <= 1000) : FnO Tryz.prog 190 [iv k, tmA t, .bool b, .ptr 2000000 0 0 0, .ptr 2000001 0 0 0, .ptr 2000002 0 0 0, .ptr 2000003 0 0 0] [(2000000, .box [.own 2000010] 54), (2000001, .box [.fn 190 [.ptr 2000000 0 0 0, .ptr 2000001 0 0 0, .ptr 2000002 0 0 0, .ptr 2000003 0 0 0]] 249), (2000002, .box (mnE m) 32), (2000003, .box [iv v] 3), (2000010, .row tmE (L) 25 2)] [2000000, 2000001, 2000002, 2000003] (.tup []) [(2000000, .box [.own 2000011] 54), (2000001, .box [.fn 190 [.ptr 2000000 0 0 0, .ptr 2000001 0 0 0, .ptr 2000002 0 0 0, .ptr 2000003 0 0 0]] 249), (2000002, .box (mnE m) 32), (2000003, .box [iv v] 3), (2000011, .row tmE (L ++ lsL m v n k t b) 25 2)] := by
 induction n using Nat.strongRecOn generalizing k t b L
 rename_i n ih;refine FnO.introX (ts := [(0, iv k), (1, tmA t), (2, .bool b), (3, .ptr 2000000 0 0 0), (4, .ptr 2000001 0 0 0), (5, .ptr 2000002 0 0 0), (6, .ptr 2000003 0 0 0)]) (rv := []) (n := 67) (cs := [.ptr 2000000 0 0 0, .ptr 2000001 0 0 0, .ptr 2000002 0 0 0, .ptr 2000003 0 0 0]) (by kernel_rfl) Tryz.func190 rfl Tryz.ntmps190 rfl rfl (by simp) rfl rfl rfl rfl (fun g w d vs => ?_);refine gd ?_ ?_<;>intro hc1
 ·have hn0 : n = 0 := by omega
  subst hn0;apply yl;apply yg;refine ya ?_;refine ExF.at 1 ?_;refine yA ?_;iterate 3 refine ExF.gi ?_
  refine gf ?_ ?_<;>intro hc2
  ·have hfin : L ++ [t] = L ++ lsL m v 0 k t b := by unfold lsL; rw [if_pos hc2]
   refine gq ?_;refine yJ tmE [⟨_, _⟩] ?_;(iterate 2 refine Ex.mo ?_);apply Ex.nil;refine X.ret ?_;refine ziE.imp (Imp.mv 2000010 2000011 rfl rfl) ?_;refine ziE.mk [] [] (.inr rfl) (.many (by decide) .nil);all_goals (rfl)
  ·have hfin : L = L ++ lsL m v 0 k t b := by
    unfold lsL;rw [if_neg (fun e => by rcases hc2 with h | h; rw [e.1] at h; cases h; omega)]; simp
   apply yp;refine X.ret ?_;refine ziE.imp (Imp.mv 2000010 2000011 rfl rfl) ?_;refine ziE.mk [] [] (.inr rfl) (.many (by decide) .nil);all_goals (rfl)
 obtain ⟨q, rfl⟩ : ∃ q, n = q + 1 := ⟨n - 1, by omega⟩;have h3 : 3 ^ (q + 1) = 3 ^ q * 3 := Nat.pow_succ ..;refine gq ?_;refine zaF [(2000000, 2000000), (2000001, 2000001), (2000002, 2000002), (2000003, 2000003), (2000010, 2000010), (2000011, 2000012)] (ih q (by omega) (k + 1) (t) b (L) (by omega) (by omega) (by omega) (by omega)) ?_;refine gq ?_;refine yb (zbs m k hm h1 h8) ?_;refine gd ?_ ?_<;>intro hc3
 ·have hfin := zsu (v := v) (n := q) (t := t) (b := b) (L := L) hc3;refine X.ret ?_;refine ziE.imp (Imp.mv 2000012 2000011 rfl rfl) ?_;refine ziE.mk [] [] (.inr rfl) (.many (by decide) .nil);all_goals (rfl)
 have hp : m.p k = 3 := hc3;refine gq ?_;refine yb (zas m (k + 1) hm (by omega) (by omega)) ?_;refine gq ?_
 refine yS (ι := Nat) (fun (j : Nat) => [(0, iv k), (3, .ptr 2000000 0 0 0), (4, .ptr 2000001 0 0 0), (5, .ptr 2000002 0 0 0), (6, .ptr 2000003 0 0 0), (8, .ptr 8 0 0 0), (10, .ptr 10 0 0 0), (11, iv (1 + (j : Int)))]) (fun (j : Nat) => [(1000001, .hold vs [.ptr 2000000 0 0 0, .ptr 2000001 0 0 0, .ptr 2000002 0 0 0, .ptr 2000003 0 0 0]), (2000000, .box [.own 2000012] 54), (2000001, .box [.fn 190 [.ptr 2000000 0 0 0, .ptr 2000001 0 0 0, .ptr 2000002 0 0 0, .ptr 2000003 0 0 0]] 249), (2000002, .box (mnE m) 32), (2000003, .box [iv v] 3), (2000012, .row tmE (lsR m v q k t b L j) 25 2), (8, .box (tmE (lsT m k t j)) 25), (10, .box (tmE (yq m (k + 1))) 25)]) (fun (j : Nat) => j <= 2 /\ (∀ i, i < j -> subE (lsT m k t i) (yq m (k + 1)) = 0) /\ (j = 2 -> v < k)) (fun (j : Nat) => 2 - j) 0 (fun j hk => ?_) (hJ := by
  exact ⟨by omega, fun i hi => by omega, fun h => by omega⟩) (h0 := by
  exact yd)
 obtain ⟨hj2, hJ, h2⟩ := hk;apply yl;apply yg;iterate 2 refine ya ?_
 refine ExF.at 2 ?_;refine yA ?_;iterate 7 refine ExF.gi ?_
 refine gf ?_ ?_<;>intro hc4
 ·have hj01 : j = 0 \/ (j = 1 /\ v < k) := by omega
  have hlj : (lsR m v q k t b L j).length + 3 ^ q <= 1000 := by
   rcases hj01 with rfl | ⟨rfl, _⟩
   ·have := zjb m v q k t b L 0; omega
   ·have := zjb m v q k t b L 1; omega
  refine gq ?_;refine yb (zbR (lsT m k t j) (yq m (k + 1))) ?_;refine gd ?_ ?_<;>intro hc5
  ·have hfin : lsR m v q k t b L j = L ++ lsL m v (q + 1) k t b := by
    rcases hj01 with rfl | ⟨rfl, hvk⟩
    ·exact zuG hp hc5
    ·exact zrm hp (hJ 0 (by omega)) (.inr hc5)
   refine X.ret ?_;refine ziE.imp (Imp.mv 2000012 2000011 rfl rfl) ?_;refine ziE.mk [] [] (.inr rfl) (.many (by decide) .nil);all_goals (rfl)
  refine gq ?_;refine zaF [(2000000, 2000000), (2000001, 2000001), (2000002, 2000002), (2000003, 2000003), (2000010, 2000012), (2000011, 2000013)] (ih q (by omega) (k + 1) (lsT m k t (j + 1)) true (lsR m v q k t b L j) (by omega) (by omega) (by omega) hlj) ?_;apply Ex.nil;refine X.imp (st' := ⟨[(0, iv k), (3, .ptr 2000000 0 0 0), (4, .ptr 2000001 0 0 0), (5, .ptr 2000002 0 0 0), (6, .ptr 2000003 0 0 0), (8, .ptr 8 0 0 0), (10, .ptr 10 0 0 0), (11, iv (1 + (j : Int)))], [(1000001, .hold vs [.ptr 2000000 0 0 0, .ptr 2000001 0 0 0, .ptr 2000002 0 0 0, .ptr 2000003 0 0 0]), (2000000, .box [.own 2000013] 54), (2000001, .box [.fn 190 [.ptr 2000000 0 0 0, .ptr 2000001 0 0 0, .ptr 2000002 0 0 0, .ptr 2000003 0 0 0]] 249), (2000002, .box (mnE m) 32), (2000003, .box [iv v] 3), (2000013, .row tmE (lsR m v q k t b L (j + 1)) 25 2), (8, .box (tmE (lsT m k t (j + 1))) 25), (10, .box (tmE (yq m (k + 1))) 25)]⟩) yd ?_;refine X.imp (Imp.mv 2000013 2000012 rfl rfl) ?_;refine gq ?_
  refine yz (j + 1) (hJ := by
   refine ⟨by omega, fun i hi => ?_, fun h => by omega⟩;rcases Nat.lt_or_ge i j with h | h
   ·exact hJ i h
   ·rw [show i = j by omega]; exact hc5) (hI := yd)
 ·have hj12 : (j = 1 /\ ¬ v < k) \/ j = 2 := by omega
  have hfin : lsR m v q k t b L j = L ++ lsL m v (q + 1) k t b := by
   rcases hj12 with ⟨rfl, h⟩ | rfl
   ·exact zrm hp (hJ 0 (by omega)) (.inl h)
   ·exact zuH hp (hJ 0 (by omega)) (h2 rfl) (hJ 1 (by omega))
  apply X.exit;refine ziE.imp (Imp.mv 2000012 2000011 rfl rfl) ?_;refine ziE.mk [] [] (.inl rfl) (.many (by decide) .nil);all_goals (rfl)
theorem zjc (m : Mn) (v : Int) (hm : ckM m = 0) (h1 : 1 <= v) (h8 : v <= 8) : Fn Tryz.prog 144 [mnA m, iv v] (tmsA (wdL m v 3)) := by
 have hp3 : 3 ^ (5 - v).toNat <= 3 ^ 4 := Nat.pow_le_pow_right (by decide) (by omega);have hp4 : 3 ^ 4 = 81 := rfl;refine Fn.go Tryz.func144 Tryz.ntmps144 (fun g w d => ?_);refine gq ?_;refine zbB ?_;refine ya ?_;apply yI;refine zB ?_;apply yI;refine zB ?_;apply yI;refine ya ?_;refine Ex.mo ?_;apply Ex.nil;apply yl;refine X.imp (zaM tmE 25 2 5 20 54 rfl rfl) ?_;refine zf [8,9,10,11,12] [0,0,0,0,12,31] mo ?_;iterate 4 refine yc ?_
 refine yM (zas m v hm h1 h8) ?_;refine yE ?_;refine zaF [(2000000, 5), (2000001, 6), (2000002, 2), (2000003, 3), (2000010, 20), (2000011, 21)] (zg5 m hm v (5 - v).toNat v (yq m v) false [] rfl h1 h8 (by simp; omega)) ?_;apply yI;refine zm ?_;refine X.ret ?_;refine RetQ.imp (Imp.freeze (k := 21) rfl) ?_;refine gq ?_;all_goals (first | rfl | (simp [wdL, *]; done) | (simp [wdL, *]; rfl) | (simp [wdL]; omega))
theorem zg6 (m : Mn) (v : Int) (hm : ckM m = 0) (h1 : 1 <= v) (h8 : v <= 8) : Fn Tryz.prog 139 [mnA m, iv v] (tmsA (wdL m v 1)) := by
 refine Fn.go Tryz.func139 Tryz.ntmps139 (fun g w d => ?_);refine gq ?_;refine yb (zas m v hm h1 h8) ?_;refine yJ tmE [yq m v] ?_;refine yu ?_;refine X.ret ?_;refine RetQ.imp (Imp.freeze (k := 8) rfl) ?_;refine gq ?_;all_goals (first | rfl | (simp [wdL, *]; done) | (simp [wdL, *]; rfl) | (simp [wdL]; omega))
theorem zg7 (m : Mn) (v : Int) (hm : ckM m = 0) (h1 : 1 <= v) (h8 : v <= 8) : Fn Tryz.prog 141 [mnA m, iv v] (tmsA (wdL m v 2)) := by
 refine Fn.go Tryz.func141 Tryz.ntmps141 (fun g w d => ?_);refine gq ?_;refine yb (zbs m v hm h1 h8) ?_;refine gd ?_ ?_<;>intro hc1
 ·apply yg;refine yu ?_;refine X.ret ?_;refine RetQ.imp (ye (ts := [(4, tmsA [])]) (hs := [])) ?_;refine gq ?_;all_goals (first | rfl | (simp [wdL, *]; done) | (simp [wdL, *]; rfl) | (simp [wdL]; omega))
 refine gq ?_;refine yb (zas m v hm h1 h8) ?_;refine yb (zcn (yq m v) 3 2) ?_;refine gq ?_;all_goals (simp [wdL, *])
theorem zg8 (m : Mn) (v : Int) (hm : ckM m = 0) (h1 : 1 <= v) (h8 : v <= 8) : Fn Tryz.prog 145 [mnA m, iv v] (tmsA (wdL m v 4)) := by
 refine Fn.go Tryz.func145 Tryz.ntmps145 (fun g w d => ?_);apply yg;refine zaS ?_;refine yu ?_;apply yl;apply yg;iterate 2 refine ya ?_
 refine ExF.at 2 ?_;refine gq ?_;refine ExF.cp (p := ¬ v = 1) (fun hgd => zbs m (v - 1) hm (by omega) (by omega)) ?_;refine ExF.gi ?_;refine gf ?_ ?_<;>intro hc1
 ·apply yg;refine yu ?_;refine X.ret ?_;refine RetQ.imp (ye (ts := [(4, tmsA [])]) (hs := [])) ?_;refine gq ?_;all_goals (first | rfl | (simp [wdL, *]; done) | (simp [wdL, *]; rfl) | (simp [wdL]; omega))
 refine gq ?_;refine yb (zas m v hm h1 h8) ?_;refine yb (zcn (yq m v) 2 1) ?_;refine gq ?_;all_goals (simp [wdL, *])
theorem zg9 (m : Mn) (v : Int) (hm : ckM m = 0) (h1 : 1 <= v) (h8 : v <= 8) : Fn Tryz.prog 146 [mnA m, iv v] (tmsA (wdL m v 5)) := by
 refine Fn.go Tryz.func146 Tryz.ntmps146 (fun g w d => ?_);refine gq ?_;refine yb (zdy m v hm h1 h8) ?_;refine yJ tmE [durT m v] ?_;refine yu ?_;refine X.ret ?_;refine RetQ.imp (Imp.freeze (k := 8) rfl) ?_;refine gq ?_;all_goals (first | rfl | (simp [wdL, *]; done) | (simp [wdL, *]; rfl) | (simp [wdL]; omega))
theorem zha (m : Mn) (v : Int) (hm : ckM m = 0) (h1 : 1 <= v) (h8 : v <= 8) : Fn Tryz.prog 148 [mnA m, iv v] (tmsA (wdL m v 6)) := by
 refine Fn.go Tryz.func148 Tryz.ntmps148 (fun g w d => ?_);refine gq ?_;refine yb (zdy m v hm h1 h8) ?_;refine yb (zcn (durT m v) 3 2) ?_;refine gq ?_;all_goals (simp [wdL, *])
theorem zhb (m : Mn) (v : Int) (hm : ckM m = 0) (h1 : 1 <= v) (h8 : v <= 8) : Fn Tryz.prog 149 [mnA m, iv v] (tmsA (wdL m v 7)) := by
 refine Fn.go Tryz.func149 Tryz.ntmps149 (fun g w d => ?_);apply yg;refine zaS ?_;refine yu ?_;apply yl;apply X.block;apply yg;iterate 3 refine ya ?_
 refine ExF.at 3 ?_;refine yA ?_;iterate 2 refine ExF.gi ?_
 refine gf ?_ ?_<;>intro hc1
 ·refine gq ?_;refine yJ tmE [⟨3, 2⟩] ?_;refine yu ?_;refine X.ret ?_;refine RetQ.imp (Imp.freeze (k := 14) rfl) ?_;refine gq ?_;all_goals (first | rfl | (rw [hW]; done) | (simp [wdL, *]; done) | (simp [wdL, *]; rfl) | (simp [wdL]; omega))
 apply yg;iterate 3 refine ya ?_
 refine ExF.at 3 ?_;refine yA ?_;iterate 2 refine ExF.gi ?_
 refine gf ?_ ?_<;>intro hc2
 ·refine gq ?_;refine yJ tmE [⟨1, 2⟩] ?_;refine yu ?_;refine X.ret ?_;refine RetQ.imp (Imp.freeze (k := 24) rfl) ?_;refine gq ?_;all_goals (first | rfl | (rw [hW]; done) | (simp [wdL, *]; done) | (simp [wdL, *]; rfl) | (simp [wdL]; omega))
 have hW : wdL m v 7 = [] := by
  have e : wdL m v 7 = (if m.Pro = 2 /\ v = 4 then [⟨3, 2⟩] else if m.Pro = 2 /\ v = 5 then [⟨1, 2⟩] else []) := rfl;rw [e, if_neg (by omega), if_neg (by omega)]
 apply yp;apply yg;refine yu ?_;refine X.ret ?_;refine RetQ.imp (ye (ts := [(4, tmsA [])]) (hs := [])) ?_;refine gq ?_;all_goals (first | rfl | (rw [hW]; done) | (simp [wdL, *]; done) | (simp [wdL, *]; rfl) | (simp [wdL]; omega))
theorem zhc (m : Mn) (v : Int) (hm : ckM m = 0) (h1 : 1 <= v) (h8 : v <= 8) : Fn Tryz.prog 150 [mnA m, iv v] (tmsA (wdL m v 8)) := by
 refine Fn.go Tryz.func150 Tryz.ntmps150 (fun g w d => ?_);refine gq ?_;refine yb (zas m v hm h1 h8) ?_;refine yJ tmE [yq m v] ?_;refine yu ?_;refine X.ret ?_;refine RetQ.imp (Imp.freeze (k := 8) rfl) ?_;refine gq ?_;all_goals (first | rfl | (simp [wdL, *]; done) | (simp [wdL, *]; rfl) | (simp [wdL]; omega))
theorem zjd  : Fn Tryz.prog 110 [] (.agg zrn) := by
 refine Fn.go Tryz.func110 Tryz.ntmps110 (fun g w d => ?_);refine gq ?_;refine RetQ.ret (.one (.cellA rfl rfl rfl rfl zrO (LeV.eq ?_)));all_goals (rfl)
end
section
theorem zj1 {I : Im} {l : List Int} {xs : List Value} (hl : xs.length = l.length * 1) (h : ∀ (i : Nat) (x : Int) (j : Nat) (c : AV) (v : Value), l[i]? = some x -> (intE x)[j]? = some c -> xs[i * 1 + j]? = some v -> RV I noNames c v) : xs = l.map (Value.int .i64) := by
 apply List.ext_getElem?;intro i;rw [List.getElem?_map];cases hx : l[i]? with
 | none =>
  have : l.length <= i := by simpa using hx
  rw [List.getElem?_eq_none (by omega)]; rfl
 | some x =>
  have hlt : i < xs.length := by have := (List.getElem?_eq_some_iff.1 hx).1; omega
  have hv := h i x 0 (iv x) xs[i] hx rfl (by simp [lgg hlt]);rw [lgg hlt, za hv]; rfl
theorem znW {I : Im} {l : List Int} : ∀ (i : Nat) (x : Int) (j : Nat) (c : AV) (v : Value), l[i]? = some x -> (intE x)[j]? = some c -> (l.map (Value.int .i64))[i * 1 + j]? = some v -> RV I noNames c v := fun i x j c v hx hc hv => by
 cases j with
 | zero =>
  simp [intE] at hc;simp [hx] at hv;subst hc; subst hv; exact .int _ _
 | succ j => simp [intE] at hc
theorem zlJ {d : Nat} {ρ ρ' : Nat -> Value} {I : Im} {O : Owns} {w w' : World} {E : TypeId} {l l' : List Int} {b : Nat} (hsat : Sat (C0 0 d ⟨ρ, I, O⟩ w) [(2000000, .row intE l E 1)] ⟨ρ, I, O⟩ w) (hρ : ∀ n, n ≠ 2000000 -> ρ' n = ρ n) (hb : yT (ρ 2000000) = some b) (hb' : yT (ρ' 2000000) = some b)
 (hm : w.grownBy w' (some b)) (hdw : w.drawn <= w'.drawn) (hw : w'.ownsRow 0 E 1 (ρ' 2000000) l'.length (l'.map (Value.int .i64))) :
 Sat (C0 0 d ⟨ρ, I, O⟩ w) [(2000000, .row intE l' E 1)] ⟨ρ', I, O⟩ w' /\ Ext (C0 0 d ⟨ρ, I, O⟩ w) ⟨ρ', I, O⟩ w' := by
 have hrel : Rel (C0 0 d ⟨ρ, I, O⟩ w) ⟨[], [(2000000, .row intE l E 1)]⟩ ⟨ρ, I, O⟩ { tmps := #[], defers := [] } w := ⟨rfl, Dfs.nil _ _ _, fun t x h => by simp [lk] at h, hsat, ⟨Im.le_refl _, rfl, rfl, rfl, Nat.le_refl _, Nat.le_refl _, fun _ _ _ _ => ⟨rfl, rfl⟩, fun b y n _ hy => ⟨n, hy⟩⟩⟩;obtain ⟨xs, hw0, h1, h2, h3⟩ := hsat.blk 2000000 _ rfl;have h4 := h3 b hb
 have hr := hrel.modifyR (g' := ⟨ρ', I, O⟩) (k := 2000000) (bo := some b) (B := .row intE l' E 1) (d := none) (x := .any) (v := .nilIface) rfl hρ (fun _ _ => rfl) (fun b' e => by injection e with e; subst e; exact h4) hm hdw (hsat.ob.up (Im.le_refl _) hm.size) rfl (.any _)
  ⟨l'.map (Value.int .i64), hw, fun i x _ => rfl, znW, fun b' hb2 => by
   have : b' = b := by rw [hb'] at hb2; simpa using hb2.symm
   subst this; exact h4⟩
 refine ⟨⟨hr.sat.im, hr.sat.ob, fun k B hB => hr.sat.blk k B ?_⟩, hr.ext⟩;simp only [yj] at hB ⊢;cases hk : Nat.beq 2000000 k <;> simp [hk] at hB ⊢
 ·simp [lk] at hB
 ·exact hB
def srtI (l : List Int) : List Int := l.mergeSort fun x y => decide (x <= y)
theorem zfd (l : List Int) : (srtI l).length = l.length := List.length_mergeSort l
theorem zlK {I : Im} {ρ : Nat -> Value} {k : Nat} {args : List Value} (h : RVL I ρ [.own k] args) : args = [ρ k] := by
 obtain ⟨hl, hv⟩ := h
 match args, hl with
 | [v], _ => rw [zU (hv 0 _ v rfl rfl)]
theorem zdl (l : List Int) (hl : l.length <= 4000000000) : FnO Tryz.prog 107 [.own 2000000] [(2000000, .row intE l 3 1)] [2000000] (.tup []) [(2000000, .row intE (srtI l) 3 1)] := by
 refine ⟨by kernel_rfl, fun d ρ I O w args hsat hargs => ?_⟩;rw [zlK hargs];obtain ⟨xs, hw, h1, h2, h3⟩ := hsat.blk 2000000 _ rfl;have hxs := zj1 hw.1 h2;rcases hw.2 with ⟨hv, h0⟩ | ⟨b, cap, cur, hv, hb0, hh, hnc, hcm, hcur, htk⟩
 ·have hv : ρ 2000000 = .slice none 0 0 := hv;have hl0 : l = [] := List.eq_nil_of_length_eq_zero h0;subst hl0;have e0 : srtI [] = [] := by simp [srtI]
  rw [hv, e0];refine Calls.mono (Tryz.slices_Sort_int_none none 0 w) ?_
  rintro e w' ⟨rfl, rfl⟩
  exact ⟨_, ρ, I, O, rfl, hsat, .tup [] [] rfl (fun j c v h => by simp at h), ⟨Im.le_refl _, rfl, rfl, rfl, Nat.le_refl _, Nat.le_refl _, fun _ _ _ _ => ⟨rfl, rfl⟩, fun b y n _ hy => ⟨n, hy⟩⟩, fun _ _ => rfl⟩
 ·have hv : ρ 2000000 = .slice (some ⟨b, 0, none⟩) l.length cap := hv;rw [hv];have hhold := holds_of_blockI (ss := l) hh (by rw [← hxs, ← htk]; simp);refine Calls.mono (Tryz.slices_Sort_int b 0 cap l w hhold (yW hh) (by omega)) ?_
  rintro e w' ⟨rfl, n, os, rfl⟩
  have hrow := ownsRow_sortedI (n := n) (os := os) (base := 0) (ss := l) (ts := srtI l) (zfd l) hb0 hh hnc hcm (by simpa using hcur);obtain ⟨s1, s2⟩ := zlJ (ρ' := ρ) (l' := srtI l) hsat (fun _ _ => rfl) (by rw [hv]; rfl) (by rw [hv]; rfl) (grownBy_sortedI (n := n) (os := os) (srtI l).toArray) (by show w.drawn <= w.drawn + n; omega) (by rw [hv, zfd]; exact hrow);exact ⟨_, ρ, I, O, rfl, s1, .tup [] [] rfl (fun j c v h => by simp at h), s2, fun _ _ => rfl⟩
theorem zco (l : List Int) (hl : l.length <= 4000000000) : FnO Tryz.prog 108 [.own 2000000] [(2000000, .row intE l 3 1)] [] (.own 2000000) [(2000000, .row intE (Lib.compact l) 3 1)] := by
 refine ⟨by kernel_rfl, fun d ρ I O w args hsat hargs => ?_⟩;rw [zlK hargs];obtain ⟨xs, hw, h1, h2, h3⟩ := hsat.blk 2000000 _ rfl;have hxs := zj1 hw.1 h2;rcases hw.2 with ⟨hv, h0⟩ | ⟨b, cap, cur, hv, hb0, hh, hnc, hcm, hcur, htk⟩
 ·have hv : ρ 2000000 = .slice none 0 0 := hv;have hl0 : l = [] := List.eq_nil_of_length_eq_zero h0;subst hl0;have e0 : Lib.compact ([] : List Int) = [] := rfl;rw [hv, e0];refine Calls.mono (Tryz.slices_Compact_int_empty none 0 w) ?_
  rintro e w' ⟨rfl, rfl⟩
  exact ⟨_, ρ, I, O, rfl, hsat, .own _ _ _ _ hv, ⟨Im.le_refl _, rfl, rfl, rfl, Nat.le_refl _, Nat.le_refl _, fun _ _ _ _ => ⟨rfl, rfl⟩, fun b y n _ hy => ⟨n, hy⟩⟩, fun _ h => by simp at h⟩
 ·have hv : ρ 2000000 = .slice (some ⟨b, 0, none⟩) l.length cap := hv;rw [hv];have hhold := holds_of_blockI (ss := l) hh (by rw [← hxs, ← htk]; simp);refine Calls.mono (Tryz.slices_Compact_int b 0 cap l w hhold (by omega) hnc) ?_
  rintro e w' ⟨rfl, n, rfl⟩
  have hcl : (Lib.compact l).length <= l.length := Lib.compact_length_le l;have hrow := ownsRow_sortedI (n := n) (os := #[]) (base := 0) (ss := l) (ts := Lib.compact l ++ List.replicate (l.length - (Lib.compact l).length) 0) (by simp; omega) hb0 hh hnc hcm (by simpa using hcur);have hgb := grownBy_sortedI (w := w) (g := b) (n := n) (os := #[]) (Lib.compact l ++ List.replicate (l.length - (Lib.compact l).length) 0).toArray;rw [Sort.grow_empty] at hrow hgb
  obtain ⟨s1, s2⟩ := zlJ (ρ' := fun k => if k = 2000000 then .slice (some ⟨b, 0, none⟩) (Lib.compact l).length cap else ρ k) (l' := Lib.compact l) hsat (fun k hk => by simp [hk]) (by rw [hv]; rfl) (by simp [yT]) hgb (by show w.drawn <= w.drawn + n; omega) (by
   refine ⟨by simp, ?_⟩;rcases hrow.2 with ⟨h, _⟩ | ⟨g', cap', cur', hv', hb', hh', hn', hm', hc', ht'⟩
   ·simp at h
   ·simp at hv';obtain ⟨rfl, rfl⟩ := hv';refine .inr ⟨b, cap, cur', by simp, hb', hh', by omega, hm', hc', ?_⟩;have := congrArg (List.take ((Lib.compact l).length * 1)) ht';rw [List.take_take] at this;simp only [Nat.mul_one, List.map_append] at this ⊢;rw [Nat.min_eq_left hcl] at this;rw [this, List.take_append_of_le_length (by simp), List.take_of_length_le (by simp)])
  exact ⟨_, _, I, O, rfl, s1, .own _ _ _ _ (by simp), s2, fun _ h => by simp at h⟩
end
end Go.Rse
