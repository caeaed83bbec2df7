/-
  Walks.
-/
import Derived.Test.YtbopkhoalndflaaGreatDoorVJSlc2
set_option linter.all false
namespace Go.Rse
open Go Go.Proofs Go.Proofs.Tryz
theorem zsk {m : Mn} {l : List Bt} (h : ¬ ckM m = 0) : wcE m l = ckM m := by unfold wcE; rw [j3 h]
def zAQ {m : Mn} {l : List Bt} {k : Nat} {b : Bt} (h0 : ckM m = 0) (Z : l[k]? = some b) (V : btF (l.take k) = 0) (h : ¬ ckT b.Dur = 0) : wcE m l = ckT b.Dur := by
 have e := ziq Z V;have e2 : btC b = ckT b.Dur := by unfold btC; rw [j3 h]
 unfold wcE; rw [j4 h0, zir (i := k + 1) (by rw [e, e2]; exact h), e, e2]
def zAR {m : Mn} {l : List Bt} {k : Nat} {b : Bt} (h0 : ckM m = 0) (Z : l[k]? = some b) (V : btF (l.take k) = 0) (h : ckT b.Dur = 0) (U : b.Dur.N = 0) : wcE m l = 2 := by
 have e := ziq Z V;have e2 : btC b = 2 := by unfold btC; rw [j4 h, j4 U]
 unfold wcE; rw [j4 h0, zir (i := k + 1) (by rw [e, e2]; decide), e, e2]
def zAS {l : List Bt} {k : Nat} {b : Bt} (Z : l[k]? = some b) (V : btF (l.take k) = 0) (h : ckT b.Dur = 0) (U : ¬ b.Dur.N = 0) : btF (l.take (k + 1)) = 0 := by
 rw [ziq Z V]; unfold btC; rw [j4 h, j3 U]
def zx1 {m : Mn} {l : List Bt} (h0 : ckM m = 0) (h : btF (l.take l.length) = 0) : wcE m l = 0 := by
 rw [jH] at h; unfold wcE; rw [j4 h0, h]
def durB (l : List Bt) : List Tm := l.map (·.Dur)
def zmF {l : List Bt} {k : Nat} {b : Bt} (h : l[k]? = some b) : durB (l.take k) ++ [b.Dur] = durB (l.take (k + 1)) := by
 unfold durB; rw [jE, h]; simp
def zgx (l : List Bt) : (durB l).length = l.length := by unfold durB; simp
def cmpI (a b : Int) : Int := if a < b then -1 else if b < a then 1 else 0
def orV : List Int -> Int
 | [] => 0
 | x :: r => if x = 0 then orV r else x
def zx2 {l : List Int} {k : Nat} {x : Int} (h : l[k]? = some x) : orV (l.drop k) = if x = 0 then orV (l.drop (k + 1)) else x := by
 have Z := j1.1 h;rw [jG Z.1, Z.2]; rfl
def foC (f g : Fo) : Int := orV [cmpI f.v g.v, cmpI (b2i f.c) (b2i g.c), cmpI (b2i f.d) (b2i g.d)]
theorem zaM (f g : Fo) : (foC f g < 0 ↔ foN f < foN g) /\ (foC f g = 0 ↔ foN f = foN g) := by
 have Z := zba f.c;have V := zba g.c;have U := zba f.d;have T := zba g.d;unfold foC foN;generalize b2i f.c = a at *
 generalize b2i g.c = b at *
 generalize b2i f.d = c at *
 generalize b2i g.d = d at *
 generalize f.v = x;generalize g.v = y;simp only [orV, cmpI];constructor <;> (repeat' split) <;> omega
attribute [local irreducible] Pur yu yq Ex X Fn Imp LeV LeB FnO It yD
attribute [local irreducible] wcE btF ckT ckM
def zb1 (m : Mn) (l : List Bt) (hl : l.length <= 4000000000) : Fn prog 72 [mnA m, btsA l] (iv (wcE m l)) := by
 refine xV func72 ntmps72 (fun g w d => ?_);refine gc (zaV ..) ?_;refine gd ?_ ?_<;>intro Q
 ·have V := zsk (l := l) Q;refine gq ?_;all_goals rw [V]
 have h0 : ckM m = 0 := by omega
 apply yl;apply yg;apply ye;refine yy ?_;apply xS;refine zX (fun k => [(14, btsA l), (15, iv (l.length : Int)), (16, iv (k : Int))]) (fun k => []) (fun k => k <= l.length /\ btF (l.take k) = 0) l.length (fun k H => ?_) (hJ := by exact ⟨by omega, by unfold btF; rfl⟩);obtain ⟨G, Z⟩ := H;refine gd ?_ ?_<;>intro E
 ·obtain ⟨b, T⟩ : ∃ b, l[k]? = some b := ⟨_, lgg (by omega)⟩;have xT : l[(k : Int).toNat]? = some b := by simpa using T
  refine gc (zco ..) ?_;refine gd ?_ ?_<;>intro N
  ·have V := zAQ h0 T Z N;refine gq ?_;all_goals rw [V]
  have I : ckT b.Dur = 0 := by omega
  refine gd ?_ ?_<;>intro U
  ·have V := zAR h0 T Z I U;refine gq ?_;all_goals rw [V]
  have J := zAS T Z I U;refine gq ?_;refine yw (k + 1) (hJ := by exact ⟨by omega, J⟩) (hI := yk)
 ·obtain rfl : k = l.length := by omega
  have V := zx1 h0 Z;refine gq ?_;all_goals rw [V]
def zkS (s : Sp) (h : Hb) : Fn prog 121 [spA s, hbA h] (.bool (usQ s h)) := by
 refine xV func121 ntmps121 (fun g w d => ?_);refine gd ?_ ?_<;>intro Z
 ·refine gd ?_ ?_<;>intro V
  ·refine gq ?_;all_goals (first | (simp [usQ, *]; done) | (simp_all [usQ]; done) | (exfalso; omega))
  refine gd ?_ ?_<;>intro U
  ·apply ye;(iterate 2 refine ya ?_);refine xX 2 ?_;refine ym ?_;(iterate 2 refine xW ?_);refine ge ?_;all_goals (first | (simp [usQ, *]; done) | (simp_all [usQ]; done) | (exfalso; omega))
  refine gd ?_ ?_<;>intro T
  ·refine gq ?_;all_goals (first | (simp [usQ, *]; done) | (simp_all [usQ]; done) | (exfalso; omega))
  refine gd ?_ ?_<;>intro Q
  ·refine gq ?_;all_goals (first | (simp [usQ, *]; done) | (simp_all [usQ]; done) | (exfalso; omega))
  refine gq ?_;all_goals (first | (simp [usQ, *]; done) | (simp_all [usQ]; done) | (exfalso; omega))
 ·refine gd ?_ ?_<;>intro N
  ·refine gq ?_;all_goals (first | (simp [usQ, *]; done) | (simp_all [usQ]; done) | (exfalso; omega))
  refine gd ?_ ?_<;>intro J
  ·apply ye;(iterate 2 refine ya ?_);refine xX 2 ?_;refine ym ?_;(iterate 2 refine xW ?_);refine ge ?_;all_goals (first | (simp [usQ, *]; done) | (simp_all [usQ]; done) | (exfalso; omega))
  refine gd ?_ ?_<;>intro I
  ·refine gq ?_;all_goals (first | (simp [usQ, *]; done) | (simp_all [usQ]; done) | (exfalso; omega))
  refine gd ?_ ?_<;>intro H
  ·refine gq ?_;all_goals (first | (simp [usQ, *]; done) | (simp_all [usQ]; done) | (exfalso; omega))
  refine gq ?_;all_goals (first | (simp [usQ, *]; done) | (simp_all [usQ]; done) | (exfalso; omega))
def z7 (b : Bool) : Fn prog 171 [.bool b] (iv (b2i b)) := by
 refine xV func171 ntmps171 (fun g w d => ?_);refine gd ?_ ?_<;>intro Z
 ·refine gq ?_;all_goals (first | (simp [b2i, *]; done) | (simp_all [b2i]; done))
 refine gq ?_;all_goals (first | (simp [b2i, *]; done) | (simp_all [b2i]; done))
def zd0 (x : Int) : Fn prog 140 [iv x] (.bool false) := by
 refine xV func140 ntmps140 (fun g w d => ?_);refine gq ?_;all_goals (simp)
def zbC (x y : Int) : Fn prog 99 [iv x, iv y] (iv (cmpI x y)) := by
 refine xV func99 ntmps99 (fun g w d => ?_);refine gc (zd0 x) ?_;refine gc (zd0 y) ?_;refine gd ?_ ?_<;>intro Z
 ·refine gd ?_ ?_<;>intro V
  ·refine gq ?_;all_goals (first | (simp [cmpI, *]; done) | (simp_all [cmpI]; done) | (unfold cmpI; simp; omega))
  refine gq ?_;all_goals (first | (simp [cmpI, *]; done) | (simp_all [cmpI]; done) | (unfold cmpI; simp; omega))
 refine gd ?_ ?_<;>intro U
 ·refine gq ?_;all_goals (first | (simp [cmpI, *]; done) | (simp_all [cmpI]; done) | (unfold cmpI; simp; omega))
 refine gd ?_ ?_<;>intro T
 ·refine gq ?_;all_goals (first | (simp [cmpI, *]; done) | (simp_all [cmpI]; done) | (unfold cmpI; simp; omega))
 refine gd ?_ ?_<;>intro Q
 ·refine gq ?_;all_goals (first | (simp [cmpI, *]; done) | (simp_all [cmpI]; done) | (unfold cmpI; simp; omega))
 refine gq ?_;all_goals (first | (simp [cmpI, *]; done) | (simp_all [cmpI]; done) | (unfold cmpI; simp; omega))
def zkT (l : List Int) (hl : l.length <= 4000000000) : Fn prog 98 [yc l] (iv (orV l)) := by
 refine xV func98 ntmps98 (fun g w d => ?_);apply ye;refine ya ?_;apply yE;refine yh ?_;apply yg;apply ye;refine yy ?_;apply xS;refine zX (fun k => [(3, iv 0), (6, yc l), (7, iv (l.length : Int)), (8, iv (k : Int))]) (fun k => []) (fun k => k <= l.length /\ orV l = orV (l.drop k)) l.length (fun k Q => ?_) (hJ := by exact ⟨by omega, rfl⟩);obtain ⟨N, Z⟩ := Q;refine gd ?_ ?_<;>intro J
 ·obtain ⟨x, hx⟩ : ∃ x, l[k]? = some x := ⟨_, lgg (by omega)⟩;have I : l[(k : Int).toNat]? = some x := by simpa using hx
  have ho := zx2 hx;refine gd ?_ ?_<;>intro V
  ·have U : orV l = x := by rw [Z, ho, j3 V]
   refine gq ?_;all_goals rw [U]
  have T : orV l = orV (l.drop (k + 1)) := by rw [Z, ho, j4 (by omega)]
  refine gq ?_;refine yw (k + 1) (hJ := by exact ⟨by omega, T⟩) (hI := yk)
 ·obtain rfl : k = l.length := by omega
  have U : orV l = 0 := by rw [Z, wS]; rfl
  refine gq ?_;all_goals rw [U]
set_option maxHeartbeats 2000000 in
def zfP (f q : Fo) : Fn prog 123 [foA f, foA q] (iv (foC f q)) := by
 refine xV func123 ntmps123 (fun g w d => ?_);refine gq ?_;refine yW [4,6,7,8,9,10,11,12,13,14,15,16,17,18,19,20,21,22,23,24,25,26,27,28,29,30] [0,1,0,4,15,0,0,64,255,0,0,1024,4095,8191,0,0,32768,131071,0,0,524288,2097151,4194303,8388607,16777215,33554431] mo ?_;iterate 4 refine yb ?_
 refine yH (zbC f.v q.v) ?_;iterate 3 refine yb ?_
 refine yH (z7 f.c) ?_;iterate 3 refine yb ?_
 refine yH (z7 q.c) ?_;refine yH (zbC (b2i f.c) (b2i q.c)) ?_;iterate 3 refine yb ?_
 refine yH (z7 f.d) ?_;iterate 3 refine yb ?_
 refine yH (z7 q.d) ?_;refine yH (zbC (b2i f.d) (b2i q.d)) ?_;refine ChM.step rfl rfl rfl (zwm (enc := intE) (l := [cmpI f.v q.v, cmpI (b2i f.c) (b2i q.c), cmpI (b2i f.d) (b2i q.d)]) sl46 ty3 ze3) rfl ?_;refine yH (zkT [cmpI f.v q.v, cmpI (b2i f.c) (b2i q.c), cmpI (b2i f.d) (b2i q.d)] (by simp)) ?_;refine yb ?_;refine yA ?_;refine gq ?_;all_goals exact zR
set_option maxHeartbeats 2000000 in
def zfQ (f : Fo) (r : Bool) : Fn prog 124 [foA f, .bool r] (sgsA (foS r f)) := by
 refine xV func124 ntmps124 (fun g w d => ?_);refine gd ?_ ?_<;>intro Z
 ·refine gd ?_ ?_<;>intro V
  ·refine gq ?_;refine yz sgE [⟨2, f.v, 0, 0, false, 0, false, false, ⟨0, 0, 0, 0⟩, false, 0, 0, 0, 0⟩, ⟨3, 0, 0, 0, false, 0, false, false, ⟨0, 0, 0, 0⟩, false, 0, 0, 0, 0⟩] ?_;refine yh ?_;refine xU ?_;refine xQ (xP (k := 19) rfl) ?_;refine gq ?_;all_goals (exact j5 (fun z => sgsA z) (by simp [foS, *]))
  refine gq ?_;refine yz sgE [⟨2, f.v, 0, 0, false, 0, false, false, ⟨0, 0, 0, 0⟩, false, 0, 0, 0, 0⟩] ?_;refine yh ?_;refine xU ?_;refine xQ (xP (k := 21) rfl) ?_;refine gq ?_;all_goals (exact j5 (fun z => sgsA z) (by simp [foS, *]))
 ·refine gd ?_ ?_<;>intro U
  ·refine gq ?_;refine yz sgE [⟨1, f.v, 4, 0, f.c, 0, false, false, ⟨0, 0, 0, 0⟩, false, 0, 0, 0, 0⟩, ⟨3, 0, 0, 0, false, 0, false, false, ⟨0, 0, 0, 0⟩, false, 0, 0, 0, 0⟩] ?_;refine yh ?_;refine xU ?_;refine xQ (xP (k := 19) rfl) ?_;refine gq ?_;all_goals (exact j5 (fun z => sgsA z) (by simp [foS, *]))
  refine gq ?_;refine yz sgE [⟨1, f.v, 4, 0, f.c, 0, false, false, ⟨0, 0, 0, 0⟩, false, 0, 0, 0, 0⟩] ?_;refine yh ?_;refine xU ?_;refine xQ (xP (k := 21) rfl) ?_;refine gq ?_;all_goals (exact j5 (fun z => sgsA z) (by simp [foS, *]))
def zgy (l : List Bt) (hl : l.length <= 4000000000) : Fn prog 80 [btsA l] (tmsA (durB l)) := by
 have V : [] = durB (l.take 0) := rfl;refine xV func80 ntmps80 (fun g w d => ?_);apply ye;refine ya ?_;apply yE;refine yh ?_;iterate 2 apply yg
 refine xZ (yF tmE 83 2 3 30 rfl rfl) ?_;apply yi;refine yy ?_;apply xS;refine zq (fun k => [(6, btsA l), (7, iv (l.length : Int)), (8, iv (k : Int)), (3, .own 30)]) (fun k => [(30, .row tmE (durB (l.take k)) 83 2)]) l.length (fun k I => ?_);refine gd ?_ ?_<;>intro U
 ·obtain ⟨b, Z⟩ : ∃ b, l[k]? = some b := ⟨_, lgg (by omega)⟩;have T : l[(k : Int).toNat]? = some b := by simpa using Z
  have Q := zmF Z;have N : (durB (l.take k)).length <= l.length := by rw [zgx, jM]; omega
  refine gq ?_;refine yz tmE [b.Dur] ?_;refine gq ?_;refine yw (k + 1) (hI := yk)
 ·obtain rfl : k = l.length := by omega
  have J : durB (l.take l.length) = durB l := by rw [jH]
  apply k8;apply ye;refine yL ?_;refine xU ?_;refine xQ (xP (k := 30) rfl) ?_;refine gq ?_;all_goals (exact j5 (fun z => tmsA z) J)
def zkU (b : Bt) (r : Bool) : Fn prog 78 [btA b, .bool r] (.bool (decide (b.Rest = r))) := by
 refine xV func78 ntmps78 (fun g w d => ?_);refine gq ?_;all_goals (first | rfl | simp)
end Go.Rse
namespace Go.Rse
open Go Go.RowKit Go.Proofs.Tryz
section
variable {κ : Type} [DecidableEq κ]
def kyK (L : List κ) : List (κ × Bool) := L.foldl (fun a t => kput t true a) []
def ziF (L : List κ) (t : κ) : kput t true (kyK L) = kyK (L ++ [t]) := by
 simp [kyK]
theorem kyKG : ∀ (L : List κ) (a : List (κ × Bool)), (a.map (·.1)).Nodup -> ((L.foldl (fun a t => kput t true a) a).map (·.1)).Nodup /\ ∀ x, x ∈ (L.foldl (fun a t => kput t true a) a).map (·.1) ↔ x ∈ a.map (·.1) \/ x ∈ L
 | [], a, h => ⟨h, fun x => by simp⟩
 | t :: L, a, h => by
  have V := zoV t true a
  have U : ((kput t true a).map (·.1)).Nodup := by
   rw [V]; split
   ·exact h
   ·rename_i T;refine uV.2 ⟨h, by simp, fun x hx y Z e => ?_⟩;simp at Z; subst Z; subst e; exact T hx
  obtain ⟨i1, i2⟩ := kyKG L (kput t true a) U
  grind
def zsl (L : List κ) : ((kyK L).map (·.1)).Nodup /\ ∀ x, x ∈ (kyK L).map (·.1) ↔ x ∈ L := by
 grind [kyKG, kyK]
def zsm (L : List κ) : (kyK L).length <= L.length := by
 have key : ∀ (L : List κ) (a : List (κ × Bool)), (L.foldl (fun a t => kput t true a) a).length <= a.length + L.length := by
  intro L
  induction L with
  | nil => intro a; simp
  | cons t r ih =>
   intro a;have Z := ih (kput t true a);have V : (kput t true a).length <= a.length + 1 := by unfold kput; split <;> simp
   simp only [vS, wB]; omega
 grind [kyK]
end
structure RnJ (n : Nat) (s : Array Nat) : Prop where
 nd : s.toList.Nodup
 lt : ∀ x ∈ s.toList, x < n
def zx3 (n : Nat) : RnJ n #[] := ⟨by simp, by simp⟩
def RnJ.s {n i : Nat} {s : Array Nat} (h : RnJ n s) (hi : i < n) (V : s.contains i = false) : RnJ n (s.push i) := by
 have U : i ∉ s.toList := fun hm => by
  have : s.contains i = true := by simpa using hm
  rw [V] at this; cases this
 refine ⟨?_, fun x hx => ?_⟩
 ·rw [Array.toList_push];refine uV.2 ⟨h.nd, by simp, fun x hx y Z e => ?_⟩;simp at Z; subst Z; subst e; exact U hx
 ·rw [Array.toList_push] at hx;rcases wG.1 hx with hx | hx
  ·exact h.lt x hx
  ·simp at hx; omega
def znG : ∀ (n : Nat) (L : List Nat), L.Nodup -> (∀ x ∈ L, x < n) -> L.length <= n
 | 0, L, _, h => by
  cases L with
  | nil => simp
  | cons x r => exact absurd (h x (by simp)) (by omega)
 | n + 1, L, Z, V => by
  have T := znG n (L.erase n) (Z.erase n) fun x hx => by
   have := V x (List.mem_of_mem_erase hx)
   have U : x ≠ n := fun e => by
    subst e;exact (List.Nodup.not_mem_erase Z) hx
   omega
  grind
def RnJ.le {n : Nat} {s : Array Nat} (h : RnJ n s) : s.size <= n := by
 have := znG n s.toList h.nd h.lt;simpa using this
section
variable {κ : Type} [Inhabited κ]
def ouK (K : List (κ × Bool)) (s : Array Nat) : List κ := s.toList.map fun i => (K.getD i default).1
def zx4 (K : List (κ × Bool)) : [] = ouK K #[] := rfl
def zx5 {K : List (κ × Bool)} {s : Array Nat} {i : Nat} {p : κ × Bool} (h : K[i]? = some p) : ouK K s ++ [p.1] = ouK K (s.push i) := by
 simp_all [ouK]
def znH (K : List (κ × Bool)) (s : Array Nat) : (ouK K s).length = s.size := by unfold ouK; simp
def zsn [DecidableEq κ] {L : List κ} {s : Array Nat} (h : RnJ (kyK L).length s) (hs : ∀ i, i < (kyK L).length -> s.contains i = true) : (ouK (kyK L) s).Nodup /\ ∀ x, x ∈ ouK (kyK L) s ↔ x ∈ L := by
 obtain ⟨k1, k2⟩ := zsl L;refine ⟨?_, fun x => ?_⟩
 ·unfold ouK;rw [List.Nodup, List.pairwise_map];refine List.Pairwise.imp_of_mem (fun {a b} V U T e => ?_) h.nd;have la := h.lt a V;have lb := h.lt b U
  grind [List.pairwise_iff_getElem]
 ·rw [← k2 x];constructor
  ·intro hx;unfold ouK at hx;obtain ⟨i, hi, rfl⟩ := jV.1 hx;have hl := h.lt i hi
   grind
  ·intro hx;obtain ⟨p, Q, rfl⟩ := jV.1 hx;obtain ⟨i, hi⟩ := jP.1 Q;have Z := (j1.1 hi).1;unfold ouK;refine jV.2 ⟨i, by simpa using hs i Z, ?_⟩;simp_all
end
end Go.Rse
