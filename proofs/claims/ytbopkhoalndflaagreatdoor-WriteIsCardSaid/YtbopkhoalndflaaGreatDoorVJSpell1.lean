/-
  Walks.
-/
import Derived.Test.YtbopkhoalndflaaGreatDoorVColor2
import Derived.Test.YtbopkhoalndflaaGreatDoorVShelf0
import Derived.Sort.OwnSortedInts
set_option linter.all false
namespace Go.Rse
open Go Go.Proofs Go.Proofs.Tryz
section
attribute [local irreducible] Pur yu yq Ex X LeV LeB FnO It yD
attribute [local irreducible] Fn
def bthE (m : Mn) (t : Tm) : Int := if ckM m = 0 then ckT t else ckM m
def zqd {m : Mn} {t : Tm} (h : bthE m t = 0) : ckM m = 0 /\ ckT t = 0 := by
 unfold bthE at h; split at h
 ·exact ⟨by assumption, h⟩
 ·exact absurd h (by assumption)
attribute [local irreducible] yp durT mulV mulE whQ whR whE yI bthE
def zkM (m : Mn) (t : Tm) : Fn prog 166 [mnA m, tmA t] (iv (bthE m t)) := by
 refine xV func166 ntmps166 (fun g w d => ?_);refine gc (zaV m) ?_;refine gd ?_ ?_<;>intro Z
 ·refine gq ?_;all_goals (unfold bthE; first | (rw [j3 Z]; done) | (rw [j4 Z]; done))
 refine gc (zco t) ?_;all_goals (unfold bthE; first | (rw [j3 Z]; done) | (rw [j4 Z]; done))
def zaU (m : Mn) (v : Int) (hm : ckM m = 0) (Z : 1 <= v) (V : v <= 8) : Fn prog 206 [mnA m, iv v] (tmA (yp m v)) := by
 refine xV func206 ntmps206 (fun g w d => ?_);refine gc (zaT hm Z V) ?_;refine k7 (.one (.cellA rfl rfl rfl rfl ty83 (xR ?_)));all_goals rfl
def zcc (m : Mn) (v : Int) (hm : ckM m = 0) (Z : 1 <= v) (V : v <= 8) : Fn prog 208 [mnA m, iv v] (.bool (decide (m.p v = 3))) := by
 refine xV func208 ntmps208 (fun g w d => ?_);refine gc (zfl hm Z V) ?_;all_goals rfl
def zdk (t : Tm) (n q : Int) : Fn prog 209 [tmA t, iv n, iv q] (tmsA [mulV t ⟨n, q⟩]) := by
 refine xV func209 ntmps209 (fun g w d => ?_);refine gc (zdS t ⟨n, q⟩) ?_;refine yz tmE [mulV t ⟨n, q⟩] ?_;refine yh ?_;refine xU ?_;refine xQ (xP (k := 18) rfl) ?_;refine gq ?_;all_goals rfl
def zet (m : Mn) (v : Int) (hm : ckM m = 0) (V : 1 <= v) (U : v <= 8) : Fn prog 213 [mnA m, iv v] (tmA (durT m v)) := by
 have Z := zlF m v;rw [zmf hm V U, j4 rfl] at Z;refine xV func213 ntmps213 (fun g w d => ?_);refine gc Z ?_;refine k7 (.one (.cellA rfl rfl rfl rfl ty83 (xR ?_)));all_goals rfl
end
section
attribute [local irreducible] Pur yu yq Ex X Fn Imp LeV LeB FnO It yD
def lsL (m : Mn) (v : Int) : Nat -> Int -> Tm -> Bool -> List Tm
 | 0, k, t, b => if b = true /\ 0 < t.N then [t] else []
 | n + 1, k, t, b => lsL m v n (k + 1) t b ++ (if m.p k = 3 then
  (if subE t (yp m (k + 1)) = 0 then lsL m v n (k + 1) (subV t (yp m (k + 1))) true ++
   (if v < k /\ subE (subV t (yp m (k + 1))) (yp m (k + 1)) = 0 then lsL m v n (k + 1) (subV (subV t (yp m (k + 1))) (yp m (k + 1))) true else []) else []) else [])
def lsT (m : Mn) (k : Int) (t : Tm) : Nat -> Tm
 | 0 => t
 | j + 1 => subV (lsT m k t j) (yp m (k + 1))
def lsR (m : Mn) (v : Int) (n : Nat) (k : Int) (t : Tm) (b : Bool) (L : List Tm) : Nat -> List Tm
 | 0 => L ++ lsL m v n (k + 1) t b
 | j + 1 => lsR m v n k t b L j ++ lsL m v n (k + 1) (lsT m k t (j + 1)) true
def zeX (m : Mn) (v : Int) : ∀ (n : Nat) (k : Int) (t : Tm) (b : Bool), (lsL m v n k t b).length <= 3 ^ n
 | 0, k, t, b => by unfold lsL; split <;> simp
 | n + 1, k, t, b => by
  have h0 := zeX m v n (k + 1) t b;have Z := zeX m v n (k + 1) (subV t (yp m (k + 1))) true;have V := zeX m v n (k + 1) (subV (subV t (yp m (k + 1))) (yp m (k + 1))) true;have U : 3 ^ (n + 1) = 3 ^ n * 3 := Nat.pow_succ ..;unfold lsL;simp only [jJ];split
  ·split
   ·simp only [jJ];split
    ·omega
    ·simp; omega
   ·simp; omega
  ·simp; omega
def zkN (m : Mn) (v : Int) (n : Nat) (k : Int) (t : Tm) (b : Bool) (L : List Tm) : ∀ j, (lsR m v n k t b L j).length <= L.length + (j + 1) * 3 ^ n
 | 0 => by have := zeX m v n (k + 1) t b; unfold lsR; simp; omega
 | j + 1 => by
  have Z := zkN m v n k t b L j;have V := zeX m v n (k + 1) (lsT m k t (j + 1)) true;have U : (j + 1 + 1) * 3 ^ n = (j + 1) * 3 ^ n + 3 ^ n := vC ..;unfold lsR; simp only [jJ]; omega
def zvF {m : Mn} {v : Int} {n : Nat} {k : Int} {t : Tm} {b : Bool} {L : List Tm} (Z : ¬ m.p k = 3) : lsR m v n k t b L 0 = L ++ lsL m v (n + 1) k t b := by
 simp only [lsR, lsL, j3 Z, wE]
def zxY {m : Mn} {v : Int} {n : Nat} {k : Int} {t : Tm} {b : Bool} {L : List Tm} (Z : m.p k = 3) (h : ¬ subE (lsT m k t 0) (yp m (k + 1)) = 0) : lsR m v n k t b L 0 = L ++ lsL m v (n + 1) k t b := by
 simp only [lsT] at h;simp only [lsR, lsL, j4 Z, j3 h, wE]
def zul {m : Mn} {v : Int} {n : Nat} {k : Int} {t : Tm} {b : Bool} {L : List Tm} (Z : m.p k = 3) (h0 : subE (lsT m k t 0) (yp m (k + 1)) = 0) (h : ¬ v < k \/ ¬ subE (lsT m k t 1) (yp m (k + 1)) = 0) : lsR m v n k t b L 1 = L ++ lsL m v (n + 1) k t b := by
 simp only [lsT] at h h0;simp only [lsR, lsL, lsT, j4 Z, j4 h0];rw [j3 (fun e => by rcases h with h | h; exact h e.1; exact h e.2)];simp
def zxZ {m : Mn} {v : Int} {n : Nat} {k : Int} {t : Tm} {b : Bool} {L : List Tm} (V : m.p k = 3) (h0 : subE (lsT m k t 0) (yp m (k + 1)) = 0) (h : v < k) (Z : subE (lsT m k t 1) (yp m (k + 1)) = 0) : lsR m v n k t b L 2 = L ++ lsL m v (n + 1) k t b := by
 simp only [lsT] at Z h0;simp only [lsR, lsL, lsT, j4 V, j4 h0, j4 (show v < k /\ _ from ⟨h, Z⟩)];simp
def wdL (m : Mn) (v : Int) (n : Nat) : List Tm :=
 if n = 1 \/ n = 8 then [yp m v]
 else if n = 2 then (if m.p v = 3 then [] else [mulV (yp m v) ⟨3, 2⟩])
 else if n = 3 then lsL m v (5 - v).toNat v (yp m v) false
 else if n = 4 then (if v = 1 \/ ¬ m.p (v - 1) = 3 then [] else [mulV (yp m v) ⟨2, 1⟩])
 else if n = 5 then [durT m v]
 else if n = 6 then [mulV (durT m v) ⟨3, 2⟩]
 else if n = 7 then (if m.Pro = 2 /\ v = 4 then [⟨3, 2⟩] else if m.Pro = 2 /\ v = 5 then [⟨1, 2⟩] else [])
 else []
def zum : List AV := [.bool false, .bool false, .bool false, .nilf, .bool false, .bool false, .bool false, .fn 205 [], .bool false, .bool false, .bool true, .fn 207 [], .bool false, .bool false, .bool false, .fn 210 [], .bool false, .bool false, .bool false, .fn 211 [],
 .bool false, .bool true, .bool false, .fn 212 [], .bool false, .bool true, .bool true, .fn 214 [], .bool false, .bool true, .bool false, .fn 215 [], .bool true, .bool false, .bool false, .fn 216 []]
attribute [local irreducible] yp durT mulV mulE subV subE
theorem zka.imp {P : Program} {C : Ctx} {rv : List ResultVar} {r : AV} {vs : List Value} {cs : List AV} {Z : List (Nat × Blk)} {e : Exit} {st st' : St} (hi : Imp C st st') (h : zka P C rv r vs cs Z e st') : zka P C rv r vs cs Z e st := by
 obtain ⟨V, ts, ex, U, T⟩ := h;exact ⟨V, ts, ex, hi.trans U, T⟩
set_option maxHeartbeats 4000000 in
def ziw (m : Mn) (hm : ckM m = 0) (v : Int) (n : Nat) (k : Int) (t : Tm) (b : Bool) (L : List Tm) (hn : (5 - k).toNat = n) (G : 1 <= k) (E : k <= 8) (hL : L.length + 3 ^ n <= 1000) : FnO prog 265 [iv k, tmA t, .bool b, .ptr 2000000 0 0 0, .ptr 2000001 0 0 0, .ptr 2000002 0 0 0, .ptr 2000003 0 0 0] [(2000000, .box [.own 2000010] 50), (2000001, .box [.fn 265 [.ptr 2000000 0 0 0, .ptr 2000001 0 0 0, .ptr 2000002 0 0 0, .ptr 2000003 0 0 0]] 299), (2000002, .box (mnE m) 23), (2000003, .box [iv v] 3), (2000010, .row tmE (L) 83 2)] [2000000, 2000001, 2000002, 2000003] (.tup []) [(2000000, .box [.own 2000011] 50), (2000001, .box [.fn 265 [.ptr 2000000 0 0 0, .ptr 2000001 0 0 0, .ptr 2000002 0 0 0, .ptr 2000003 0 0 0]] 299), (2000002, .box (mnE m) 23), (2000003, .box [iv v] 3), (2000011, .row tmE (L ++ lsL m v n k t b) 83 2)] := by
 induction n using Nat.strongRecOn generalizing k t b L
 rename_i n ih;refine kI (ts := [(0, iv k), (1, tmA t), (2, .bool b), (3, .ptr 2000000 0 0 0), (4, .ptr 2000001 0 0 0), (5, .ptr 2000002 0 0 0), (6, .ptr 2000003 0 0 0)]) (rv := []) (n := 67) (cs := [.ptr 2000000 0 0 0, .ptr 2000001 0 0 0, .ptr 2000002 0 0 0, .ptr 2000003 0 0 0]) (by kernel_rfl) func265 rfl ntmps265 rfl rfl (by simp) rfl rfl rfl rfl (fun g w d vs => ?_);refine gd ?_ ?_<;>intro xT
 ·have I : n = 0 := by omega
  subst I;apply yg;apply ye;refine ya ?_;refine xX 1 ?_;refine ym ?_;iterate 3 refine xW ?_
  refine gf ?_ ?_<;>intro T
  ·have Z : L ++ [t] = L ++ lsL m v 0 k t b := by unfold lsL; rw [j4 T]
   refine gq ?_;refine yz tmE [⟨_, _⟩] ?_;(iterate 2 refine xY ?_);apply k9;refine xU ?_;refine zka.imp (kO 2000010 2000011 rfl rfl) ?_;refine zka.mk [] [] (.inr rfl) (.many (by decide) .nil);all_goals rfl
  ·have Z : L = L ++ lsL m v 0 k t b := by
    unfold lsL;rw [j3 (fun e => by rcases T with h | h; rw [e.1] at h; cases h; omega)]; simp
   apply yl;refine xU ?_;refine zka.imp (kO 2000010 2000011 rfl rfl) ?_;refine zka.mk [] [] (.inr rfl) (.many (by decide) .nil);all_goals rfl
 obtain ⟨q, rfl⟩ : ∃ q, n = q + 1 := ⟨n - 1, by omega⟩;have h3 : 3 ^ (q + 1) = 3 ^ q * 3 := Nat.pow_succ ..;refine gq ?_;refine zV [(2000000, 2000000), (2000001, 2000001), (2000002, 2000002), (2000003, 2000003), (2000010, 2000010), (2000011, 2000012)] (ih q (by omega) (k + 1) (t) b (L) (by omega) (by omega) (by omega) (by omega)) ?_;refine gc (zcc m k hm G E) ?_;refine gd ?_ ?_<;>intro Q
 ·have Z := zvF (v := v) (n := q) (t := t) (b := b) (L := L) Q;refine xU ?_;refine zka.imp (kO 2000012 2000011 rfl rfl) ?_;refine zka.mk [] [] (.inr rfl) (.many (by decide) .nil);all_goals rfl
 have J : m.p k = 3 := Q;refine gq ?_;refine yM (zaU m (k + 1) hm (by omega) (by omega)) ?_;refine zh ?_;refine xY ?_;apply yE;refine yh ?_;apply xS;refine zX (fun j => [(0, iv k), (3, .ptr 2000000 0 0 0), (4, .ptr 2000001 0 0 0), (5, .ptr 2000002 0 0 0), (6, .ptr 2000003 0 0 0), (8, .ptr 8 0 0 0), (10, .ptr 10 0 0 0), (11, iv (1 + (j : Int)))]) (fun j => [(1000001, .hold vs [.ptr 2000000 0 0 0, .ptr 2000001 0 0 0, .ptr 2000002 0 0 0, .ptr 2000003 0 0 0]), (2000000, .box [.own 2000012] 50), (2000001, .box [.fn 265 [.ptr 2000000 0 0 0, .ptr 2000001 0 0 0, .ptr 2000002 0 0 0, .ptr 2000003 0 0 0]] 299), (2000002, .box (mnE m) 23), (2000003, .box [iv v] 3), (2000012, .row tmE (lsR m v q k t b L j) 83 2), (8, .box (tmE (lsT m k t j)) 83), (10, .box (tmE (yp m (k + 1))) 83)]) (fun j => j <= 2 /\ (∀ i, i < j -> subE (lsT m k t i) (yp m (k + 1)) = 0) /\ (j = 2 -> v < k)) 2 (fun j hk => ?_) (hJ := by exact ⟨by omega, fun i hi => by omega, fun h => by omega⟩);obtain ⟨x4, hJ, h2⟩ := hk;apply yg;apply ye;iterate 2 refine ya ?_
 refine xX 2 ?_;refine ym ?_;iterate 7 refine xW ?_
 refine gf ?_ ?_<;>intro x3
 ·have V : j = 0 \/ (j = 1 /\ v < k) := by omega
  have H : (lsR m v q k t b L j).length + 3 ^ q <= 1000 := by
   rcases V with rfl | ⟨rfl, _⟩
   ·have := zkN m v q k t b L 0; omega
   ·have := zkN m v q k t b L 1; omega
  refine gc (zcI (lsT m k t j) (yp m (k + 1))) ?_;refine gd ?_ ?_<;>intro U
  ·have Z : lsR m v q k t b L j = L ++ lsL m v (q + 1) k t b := by
    rcases V with rfl | ⟨rfl, x2⟩
    ·exact zxY J U
    ·exact zul J (hJ 0 (by omega)) (.inr U)
   refine xU ?_;refine zka.imp (kO 2000012 2000011 rfl rfl) ?_;refine zka.mk [] [] (.inr rfl) (.many (by decide) .nil);all_goals rfl
  refine gq ?_;refine zV [(2000000, 2000000), (2000001, 2000001), (2000002, 2000002), (2000003, 2000003), (2000010, 2000012), (2000011, 2000013)] (ih q (by omega) (k + 1) (lsT m k t (j + 1)) true (lsR m v q k t b L j) (by omega) (by omega) (by omega) H) ?_;apply k9;refine xZ (st' := ⟨[(0, iv k), (3, .ptr 2000000 0 0 0), (4, .ptr 2000001 0 0 0), (5, .ptr 2000002 0 0 0), (6, .ptr 2000003 0 0 0), (8, .ptr 8 0 0 0), (10, .ptr 10 0 0 0), (11, iv (1 + (j : Int)))], [(1000001, .hold vs [.ptr 2000000 0 0 0, .ptr 2000001 0 0 0, .ptr 2000002 0 0 0, .ptr 2000003 0 0 0]), (2000000, .box [.own 2000013] 50), (2000001, .box [.fn 265 [.ptr 2000000 0 0 0, .ptr 2000001 0 0 0, .ptr 2000002 0 0 0, .ptr 2000003 0 0 0]] 299), (2000002, .box (mnE m) 23), (2000003, .box [iv v] 3), (2000013, .row tmE (lsR m v q k t b L (j + 1)) 83 2), (8, .box (tmE (lsT m k t (j + 1))) 83), (10, .box (tmE (yp m (k + 1))) 83)]⟩) yk ?_;refine xZ (kO 2000013 2000012 rfl rfl) ?_;refine gq ?_
  refine yw (j + 1) (hJ := by
   refine ⟨by omega, fun i hi => ?_, fun h => by omega⟩;rcases w6 i j with h | h
   ·exact hJ i h
   ·rw [show i = j by omega]; exact U) (hI := yk)
 ·have N : (j = 1 /\ ¬ v < k) \/ j = 2 := by omega
  have Z : lsR m v q k t b L j = L ++ lsL m v (q + 1) k t b := by
   rcases N with ⟨rfl, h⟩ | rfl
   ·exact zul J (hJ 0 (by omega)) (.inl h)
   ·exact zxZ J (hJ 0 (by omega)) (h2 rfl) (hJ 1 (by omega))
  apply k8;refine zka.imp (kO 2000012 2000011 rfl rfl) ?_;refine zka.mk [] [] (.inl rfl) (.many (by decide) .nil);all_goals rfl
def zkO (m : Mn) (v : Int) (hm : ckM m = 0) (Z : 1 <= v) (V : v <= 8) : Fn prog 210 [mnA m, iv v] (tmsA (wdL m v 3)) := by
 have U : 3 ^ (5 - v).toNat <= 3 ^ 4 := uX (by decide) (by omega);have T : 3 ^ 4 = 81 := rfl;refine xV func210 ntmps210 (fun g w d => ?_);refine gq ?_;refine zeL ?_;refine ya ?_;apply yE;refine zh ?_;apply yE;refine zh ?_;apply yE;refine ya ?_;refine xY ?_;apply k9;apply yg;refine xZ (zbZ tmE 83 2 5 20 50 rfl rfl) ?_;refine yW [8,9,10,11,12] [0,0,0,0,12,31] mo ?_;iterate 4 refine yb ?_
 refine yH (zaU m v hm Z V) ?_;refine yA ?_;refine zV [(2000000, 5), (2000001, 6), (2000002, 2), (2000003, 3), (2000010, 20), (2000011, 21)] (ziw m hm v (5 - v).toNat v (yp m v) false [] rfl Z V (by simp; omega)) ?_;apply yE;refine yL ?_;refine xU ?_;refine xQ (xP (k := 21) rfl) ?_;refine gq ?_;all_goals (first | rfl | (simp [wdL, *]; done) | (simp [wdL, *]; rfl) | (simp [wdL]; omega))
def zix (m : Mn) (v : Int) (hm : ckM m = 0) (Z : 1 <= v) (V : v <= 8) : Fn prog 205 [mnA m, iv v] (tmsA (wdL m v 1)) := by
 refine xV func205 ntmps205 (fun g w d => ?_);refine gq ?_;refine yM (zaU m v hm Z V) ?_;refine yz tmE [yp m v] ?_;refine yh ?_;refine xU ?_;refine xQ (xP (k := 8) rfl) ?_;refine gq ?_;all_goals (first | rfl | (simp [wdL, *]; done) | (simp [wdL, *]; rfl) | (simp [wdL]; omega))
def ziy (m : Mn) (v : Int) (hm : ckM m = 0) (Z : 1 <= v) (V : v <= 8) : Fn prog 207 [mnA m, iv v] (tmsA (wdL m v 2)) := by
 refine xV func207 ntmps207 (fun g w d => ?_);refine gc (zcc m v hm Z V) ?_;refine gd ?_ ?_<;>intro U
 ·apply ye;refine yh ?_;refine xU ?_;refine xQ (yd (ts := [(4, tmsA [])]) (hs := [])) ?_;refine gq ?_;all_goals (first | rfl | (simp [wdL, *]; done) | (simp [wdL, *]; rfl) | (simp [wdL]; omega))
 refine gq ?_;refine yM (zaU m v hm Z V) ?_;refine gc (zdk (yp m v) 3 2) ?_;all_goals (simp [wdL, *])
def ziz (m : Mn) (v : Int) (hm : ckM m = 0) (Z : 1 <= v) (V : v <= 8) : Fn prog 211 [mnA m, iv v] (tmsA (wdL m v 4)) := by
 refine xV func211 ntmps211 (fun g w d => ?_);apply ye;refine zF ?_;refine yh ?_;apply yg;apply ye;iterate 2 refine ya ?_
 refine xX 2 ?_;refine gq ?_;refine ExF.cp (p := ¬ v = 1) (fun U => zcc m (v - 1) hm (by omega) (by omega)) ?_;refine xW ?_;refine gf ?_ ?_<;>intro T
 ·apply ye;refine yh ?_;refine xU ?_;refine xQ (yd (ts := [(4, tmsA [])]) (hs := [])) ?_;refine gq ?_;all_goals (first | rfl | (simp [wdL, *]; done) | (simp [wdL, *]; rfl) | (simp [wdL]; omega))
 refine gq ?_;refine yM (zaU m v hm Z V) ?_;refine gc (zdk (yp m v) 2 1) ?_;all_goals (simp [wdL, *])
def ziA (m : Mn) (v : Int) (hm : ckM m = 0) (Z : 1 <= v) (V : v <= 8) : Fn prog 212 [mnA m, iv v] (tmsA (wdL m v 5)) := by
 refine xV func212 ntmps212 (fun g w d => ?_);refine gq ?_;refine yM (zet m v hm Z V) ?_;refine yz tmE [durT m v] ?_;refine yh ?_;refine xU ?_;refine xQ (xP (k := 8) rfl) ?_;refine gq ?_;all_goals (first | rfl | (simp [wdL, *]; done) | (simp [wdL, *]; rfl) | (simp [wdL]; omega))
def ziB (m : Mn) (v : Int) (hm : ckM m = 0) (Z : 1 <= v) (V : v <= 8) : Fn prog 214 [mnA m, iv v] (tmsA (wdL m v 6)) := by
 refine xV func214 ntmps214 (fun g w d => ?_);refine gq ?_;refine yM (zet m v hm Z V) ?_;refine gc (zdk (durT m v) 3 2) ?_;all_goals (simp [wdL, *])
def ziC (m : Mn) (v : Int) (hm : ckM m = 0) (T : 1 <= v) (Q : v <= 8) : Fn prog 215 [mnA m, iv v] (tmsA (wdL m v 7)) := by
 refine xV func215 ntmps215 (fun g w d => ?_);apply ye;refine zF ?_;refine yh ?_;apply yg;apply xS;apply ye;iterate 3 refine ya ?_
 refine xX 3 ?_;refine ym ?_;iterate 2 refine xW ?_
 refine gf ?_ ?_<;>intro V
 ·refine gq ?_;refine yz tmE [⟨3, 2⟩] ?_;refine yh ?_;refine xU ?_;refine xQ (xP (k := 14) rfl) ?_;refine gq ?_;all_goals (first | rfl | exact zE Z | (simp [wdL, *]; done) | (simp [wdL, *]; rfl) | (simp [wdL]; omega))
 apply ye;iterate 3 refine ya ?_
 refine xX 3 ?_;refine ym ?_;iterate 2 refine xW ?_
 refine gf ?_ ?_<;>intro U
 ·refine gq ?_;refine yz tmE [⟨1, 2⟩] ?_;refine yh ?_;refine xU ?_;refine xQ (xP (k := 24) rfl) ?_;refine gq ?_;all_goals (first | rfl | exact zE Z | (simp [wdL, *]; done) | (simp [wdL, *]; rfl) | (simp [wdL]; omega))
 have Z : wdL m v 7 = [] := by
  have e : wdL m v 7 = (if m.Pro = 2 /\ v = 4 then [⟨3, 2⟩] else if m.Pro = 2 /\ v = 5 then [⟨1, 2⟩] else []) := rfl;rw [e, j3 (by omega), j3 (by omega)]
 apply yl;apply ye;refine yh ?_;refine xU ?_;refine xQ (yd (ts := [(4, tmsA [])]) (hs := [])) ?_;refine gq ?_;all_goals (first | rfl | exact zE Z | (simp [wdL, *]; done) | (simp [wdL, *]; rfl) | (simp [wdL]; omega))
def ziD (m : Mn) (v : Int) (hm : ckM m = 0) (Z : 1 <= v) (V : v <= 8) : Fn prog 216 [mnA m, iv v] (tmsA (wdL m v 8)) := by
 refine xV func216 ntmps216 (fun g w d => ?_);refine gq ?_;refine yM (zaU m v hm Z V) ?_;refine yz tmE [yp m v] ?_;refine yh ?_;refine xU ?_;refine xQ (xP (k := 8) rfl) ?_;refine gq ?_;all_goals (first | rfl | (simp [wdL, *]; done) | (simp [wdL, *]; rfl) | (simp [wdL]; omega))
def zkP  : Fn prog 167 [] (.agg zum) := by
 refine xV func167 ntmps167 (fun g w d => ?_);refine gq ?_;refine k7 (.one (.cellA rfl rfl rfl rfl zuF (xR ?_)));all_goals rfl
end
section
def zlQ {I : Im} {l : List Int} {xs : List Value} (hl : xs.length = l.length * 1) (h : ∀ (i : Nat) (x : Int) (j : Nat) (c : AV) (v : Value), l[i]? = some x -> (intE x)[j]? = some c -> xs[i * 1 + j]? = some v -> RV I noNames c v) : xs = l.map (Value.int .i64) := by
 apply uK;intro i;rw [jK];cases hx : l[i]? with
 | none =>
  have : l.length <= i := by simpa using hx
  rw [wL (by omega)]; rfl
 | some x =>
  have Z : i < xs.length := by have := (j1.1 hx).1; omega
  have hv := h i x 0 (iv x) xs[i] hx rfl (by simp [lgg Z]);rw [lgg Z, y8 hv]; rfl
def zqe {I : Im} {l : List Int} : ∀ (i : Nat) (x : Int) (j : Nat) (c : AV) (v : Value), l[i]? = some x -> (intE x)[j]? = some c -> (l.map (Value.int .i64))[i * 1 + j]? = some v -> RV I noNames c v := fun i x j c v hx Z hv => by
 cases j with
 | zero =>
  simp [intE] at Z;simp [hx] at hv;subst Z; subst hv; exact .int _ _
 | succ j => simp [intE] at Z
def znB {d : Nat} {ρ ρ' : Nat -> Value} {I : Im} {O : Owns} {w w' : World} {E : TypeId} {l l' : List Int} {b : Nat} (Z : Sat (C0 0 d ⟨ρ, I, O⟩ w) [(2000000, .row intE l E 1)] ⟨ρ, I, O⟩ w) (hρ : ∀ n, n ≠ 2000000 -> ρ' n = ρ n) (H : y7 (ρ 2000000) = some b) (Q : y7 (ρ' 2000000) = some b)
 (hm : w.grownBy w' (some b)) (N : w.drawn <= w'.drawn) (G : w'.ownsRow 0 E 1 (ρ' 2000000) l'.length (l'.map (Value.int .i64))) :
 Sat (C0 0 d ⟨ρ, I, O⟩ w) [(2000000, .row intE l' E 1)] ⟨ρ', I, O⟩ w' /\ Ext (C0 0 d ⟨ρ, I, O⟩ w) ⟨ρ', I, O⟩ w' := by
 have V : Rel (C0 0 d ⟨ρ, I, O⟩ w) ⟨[], [(2000000, .row intE l E 1)]⟩ ⟨ρ, I, O⟩ { tmps := #[], defers := [] } w := ⟨rfl, Dfs.nil _ _ _, fun t x h => by simp [lk] at h, Z, ⟨kR _, rfl, rfl, rfl, jC _, jC _, fun _ _ _ _ => ⟨rfl, rfl⟩, fun b y n _ hy => ⟨n, hy⟩⟩⟩;obtain ⟨xs, xT, h1, h2, h3⟩ := Z.blk 2000000 _ rfl;have J := h3 b H
 have hr := V.modifyR (g' := ⟨ρ', I, O⟩) (k := 2000000) (bo := some b) (B := .row intE l' E 1) (d := none) (x := .any) (v := .nilIface) rfl hρ (fun _ _ => rfl) (fun b' e => by injection e with e; subst e; exact J) hm N (Z.ob.up (kR _) hm.size) rfl (.any _)
  ⟨l'.map (Value.int .i64), G, fun i x _ => rfl, zqe, fun b' U => by
   have : b' = b := by rw [Q] at U; simpa using U.symm
   subst this; exact J⟩
 refine ⟨⟨hr.sat.im, hr.sat.ob, fun k B T => hr.sat.blk k B ?_⟩, hr.ext⟩;simp only [yn] at T ⊢;cases hk : Nat.beq 2000000 k <;> simp [hk] at T ⊢
 ·simp [lk] at T
 ·exact T
def srtI (l : List Int) : List Int := l.mergeSort fun x y => decide (x <= y)
def zgt (l : List Int) : (srtI l).length = l.length := List.length_mergeSort l
def znC {I : Im} {ρ : Nat -> Value} {k : Nat} {args : List Value} (h : RVL I ρ [.own k] args) : args = [ρ k] := by
 obtain ⟨hl, hv⟩ := h
 match args, hl with
 | [v], _ => rw [zW (hv 0 _ v rfl rfl)]
def zea (l : List Int) (hl : l.length <= 4000000000) : FnO prog 235 [.own 2000000] [(2000000, .row intE l 3 1)] [2000000] (.tup []) [(2000000, .row intE (srtI l) 3 1)] := by
 refine ⟨by kernel_rfl, fun d ρ I O w args Z V => ?_⟩;rw [znC V];obtain ⟨xs, hw, h1, h2, h3⟩ := Z.blk 2000000 _ rfl;have N := zlQ hw.1 h2;rcases hw.2 with ⟨hv, h0⟩ | ⟨b, cap, cur, hv, J, H, G, E, T, xT⟩
 ·have hv : ρ 2000000 = .slice none 0 0 := hv;have x4 : l = [] := jN h0;subst x4;have e0 : srtI [] = [] := by simp [srtI]
  rw [hv, e0];refine Calls.mono (Tryz.slices_Sort_int_none none 0 w) ?_
  rintro e w' ⟨rfl, rfl⟩
  exact ⟨_, ρ, I, O, rfl, Z, .tup [] [] rfl (fun j c v h => by simp at h), ⟨kR _, rfl, rfl, rfl, jC _, jC _, fun _ _ _ _ => ⟨rfl, rfl⟩, fun b y n _ hy => ⟨n, hy⟩⟩, fun _ _ => rfl⟩
 ·have hv : ρ 2000000 = .slice (some ⟨b, 0, none⟩) l.length cap := hv;rw [hv];have U := holds_of_blockI (ss := l) H (by rw [← N, ← xT]; simp);refine Calls.mono (Tryz.slices_Sort_int b 0 cap l w U (za H) (by omega)) ?_
  rintro e w' ⟨rfl, n, os, rfl⟩
  have Q := ownsRow_sortedI (n := n) (os := os) (base := 0) (ss := l) (ts := srtI l) (zgt l) J H G E (by simpa using T);obtain ⟨s1, s2⟩ := znB (ρ' := ρ) (l' := srtI l) Z (fun _ _ => rfl) (by rw [hv]; rfl) (by rw [hv]; rfl) (grownBy_sortedI (n := n) (os := os) (srtI l).toArray) (by show w.drawn <= w.drawn + n; omega) (by rw [hv, zgt]; exact Q);exact ⟨_, ρ, I, O, rfl, s1, .tup [] [] rfl (fun j c v h => by simp at h), s2, fun _ _ => rfl⟩
def zdl (l : List Int) (hl : l.length <= 4000000000) : FnO prog 236 [.own 2000000] [(2000000, .row intE l 3 1)] [] (.own 2000000) [(2000000, .row intE (Lib.compact l) 3 1)] := by
 refine ⟨by kernel_rfl, fun d ρ I O w args Z U => ?_⟩;rw [znC U];obtain ⟨xs, hw, h1, h2, h3⟩ := Z.blk 2000000 _ rfl;have G := zlQ hw.1 h2;rcases hw.2 with ⟨hv, h0⟩ | ⟨b, cap, cur, hv, E, hh, Q, xT, N, x4⟩
 ·have hv : ρ 2000000 = .slice none 0 0 := hv;have x3 : l = [] := jN h0;subst x3;have e0 : Lib.compact ([] : List Int) = [] := rfl;rw [hv, e0];refine Calls.mono (Tryz.slices_Compact_int_empty none 0 w) ?_
  rintro e w' ⟨rfl, rfl⟩
  exact ⟨_, ρ, I, O, rfl, Z, .own _ _ _ _ hv, ⟨kR _, rfl, rfl, rfl, jC _, jC _, fun _ _ _ _ => ⟨rfl, rfl⟩, fun b y n _ hy => ⟨n, hy⟩⟩, fun _ h => by simp at h⟩
 ·have hv : ρ 2000000 = .slice (some ⟨b, 0, none⟩) l.length cap := hv;rw [hv];have T := holds_of_blockI (ss := l) hh (by rw [← G, ← x4]; simp);refine Calls.mono (Tryz.slices_Compact_int b 0 cap l w T (by omega) Q) ?_
  rintro e w' ⟨rfl, n, rfl⟩
  have x2 : (Lib.compact l).length <= l.length := Lib.compact_length_le l;have V := ownsRow_sortedI (n := n) (os := #[]) (base := 0) (ss := l) (ts := Lib.compact l ++ List.replicate (l.length - (Lib.compact l).length) 0) (by simp; omega) E hh Q xT (by simpa using N);have J := grownBy_sortedI (w := w) (g := b) (n := n) (os := #[]) (Lib.compact l ++ List.replicate (l.length - (Lib.compact l).length) 0).toArray;rw [Sort.grow_empty] at V J
  obtain ⟨s1, s2⟩ := znB (ρ' := fun k => if k = 2000000 then .slice (some ⟨b, 0, none⟩) (Lib.compact l).length cap else ρ k) (l' := Lib.compact l) Z (fun k hk => by simp [hk]) (by rw [hv]; rfl) (by simp [y7]) J (by show w.drawn <= w.drawn + n; omega) (by
   refine ⟨by simp, ?_⟩;rcases V.2 with ⟨h, _⟩ | ⟨g', cap', cur', H, x1, x0, v5, w2, v9, v8⟩
   ·simp at h
   ·simp at H;obtain ⟨rfl, rfl⟩ := H;refine .inr ⟨b, cap, cur', by simp, x1, x0, by omega, w2, v9, ?_⟩;have := j5 (List.take ((Lib.compact l).length * 1)) v8;rw [List.take_take] at this;simp only [Nat.mul_one, xE] at this ⊢;rw [Nat.min_eq_left x2] at this;rw [this, wI (by simp), jY (by simp)])
  exact ⟨_, _, I, O, rfl, s1, .own _ _ _ _ (by simp), s2, fun _ h => by simp at h⟩
end
end Go.Rse
