/-
  Walks: beats and forms (write.Check, used, form.order, form.signs, durs).
-/
import Derived.Test.YtggdlojopkoegaaGreatDoorOJSlc2
import Derived.Test.YtggdlojopkoegaaGreatDoorOJSpan1
import Derived.Test.YtggdlojopkoegaaGreatDoorOJTime
import Derived.Test.YtggdlojopkoegaaGreatDoorOLogC
set_option linter.unusedSimpArgs false
set_option linter.unusedVariables false
namespace Go.Rse
open Go Go.Proofs
theorem zrW {m : Mn} {l : List Bt} (h : ¬ ckM m = 0) : wcE m l = ckM m := by unfold wcE; rw [if_neg h]
theorem zut {m : Mn} {l : List Bt} {k : Nat} {b : Bt} (h0 : ckM m = 0) (hb : l[k]? = some b) (h2 : btF (l.take k) = 0) (h : ¬ ckT b.Dur = 0) : wcE m l = ckT b.Dur := by
 have e := zjv hb h2;have e2 : btC b = ckT b.Dur := by unfold btC; rw [if_neg h]
 unfold wcE; rw [if_pos h0, ziO (i := k + 1) (by rw [e, e2]; exact h), e, e2]
theorem zuu {m : Mn} {l : List Bt} {k : Nat} {b : Bt} (h0 : ckM m = 0) (hb : l[k]? = some b) (h2 : btF (l.take k) = 0) (h : ckT b.Dur = 0) (h3 : b.Dur.N = 0) : wcE m l = 2 := by
 have e := zjv hb h2;have e2 : btC b = 2 := by unfold btC; rw [if_pos h, if_pos h3]
 unfold wcE; rw [if_pos h0, ziO (i := k + 1) (by rw [e, e2]; decide), e, e2]
theorem zuv {l : List Bt} {k : Nat} {b : Bt} (hb : l[k]? = some b) (h2 : btF (l.take k) = 0) (h : ckT b.Dur = 0) (h3 : ¬ b.Dur.N = 0) : btF (l.take (k + 1)) = 0 := by
 rw [zjv hb h2]; unfold btC; rw [if_pos h, if_neg h3]
theorem zuw {m : Mn} {l : List Bt} (h0 : ckM m = 0) (h : btF (l.take l.length) = 0) : wcE m l = 0 := by
 rw [List.take_length] at h; unfold wcE; rw [if_pos h0, h]
def durB (l : List Bt) : List Tm := l.map (·.Dur)
theorem zmo {l : List Bt} {k : Nat} {b : Bt} (h : l[k]? = some b) : durB (l.take k) ++ [b.Dur] = durB (l.take (k + 1)) := by
 unfold durB; rw [List.take_add_one, h]; simp
theorem zgb (l : List Bt) : (durB l).length = l.length := by unfold durB; simp
def cmpI (a b : Int) : Int := if a < b then -1 else if b < a then 1 else 0
def orV : List Int -> Int
 | [] => 0
 | x :: r => if x = 0 then orV r else x
theorem zrX {l : List Int} {k : Nat} {x : Int} (h : l[k]? = some x) : orV (l.drop k) = if x = 0 then orV (l.drop (k + 1)) else x := by
 have h1 := List.getElem?_eq_some_iff.1 h;rw [List.drop_eq_getElem_cons h1.1, h1.2]; rfl
def foC (f g : Fo) : Int := orV [cmpI f.v g.v, cmpI (b2i f.c) (b2i g.c), cmpI (b2i f.d) (b2i g.d)]
theorem zS (f g : Fo) : (foC f g < 0 ↔ foN f < foN g) /\ (foC f g = 0 ↔ foN f = foN g) := by
 have h1 := zab f.c;have h2 := zab g.c;have h3 := zab f.d;have h4 := zab g.d;unfold foC foN;generalize b2i f.c = a at *
 generalize b2i g.c = b at *
 generalize b2i f.d = c at *
 generalize b2i g.d = d at *
 generalize f.v = x;generalize g.v = y;simp only [orV, cmpI];constructor <;> (repeat' split) <;> omega
attribute [local irreducible] Pur yz yA Ex X Fn Imp LeV LeB FnO It yE
attribute [local irreducible] wcE btF ckT ckM
theorem za7 (m : Mn) (l : List Bt) (hl : l.length <= 4000000000) : Fn Tryz.prog 25 [mnA m, btsA l] (iv (wcE m l)) := by
 refine Fn.go Tryz.func25 Tryz.ntmps25 (fun g w d => ?_);apply yb;refine yD ?_;refine ye ?_;apply yd;apply yb;refine ya ?_;refine ym (zal ..) ?_;refine ya ?_;apply yj;refine yg ?_;refine yk rfl ?_ ?_<;>intro hc1
 ·have hV := zrW (l := l) hc1;apply yb;refine yg ?_;refine X.ret ?_;refine yh ?_;all_goals (rw [hV])
 have h0 : ckM m = 0 := by omega
 apply yf;apply yd;apply yb;refine yo ?_;apply X.block
 refine zj (ι := Nat) (fun (k : Nat) => [(14, btsA l), (15, iv (l.length : Int)), (16, iv (k : Int))]) (fun (k : Nat) => []) (fun (k : Nat) => k <= l.length /\ btF (l.take k) = 0) (fun (k : Nat) => l.length - k) 0 (fun k hk => ?_) (hJ := by
  exact ⟨by omega, by unfold btF; rfl⟩) (h0 := by
  exact yq)
 obtain ⟨hk1, hk2⟩ := hk;apply yb;refine ye ?_;apply yd;refine yk rfl ?_ ?_<;>intro hc2
 ·obtain ⟨b, hb⟩ : ∃ b, l[k]? = some b := ⟨_, lgg (by omega)⟩;have hb2 : l[(k : Int).toNat]? = some b := by simpa using hb
  apply yf;apply yd;apply X.block;apply yb;iterate 2 refine ya ?_
  refine yC ?_;refine Ex.mo ?_;apply Ex.nil;apply yd;apply yb;iterate 2 refine ya ?_
  refine ym (zbi ..) ?_;refine ya ?_;apply yj;refine yg ?_;refine yk rfl ?_ ?_<;>intro hc3
  ·have hV := zut h0 hb hk2 hc3;apply yb;refine yg ?_;refine X.ret ?_;refine yh ?_;all_goals (rw [hV])
  have h3 : ckT b.Dur = 0 := by omega
  apply yf;apply yb;refine z6 ?_;refine yk rfl ?_ ?_<;>intro hc4
  ·have hV := zuu h0 hb hk2 h3 hc4;apply yb;refine ye ?_;refine X.ret ?_;refine yh ?_;all_goals (rw [hV])
  have hst := zuv hb hk2 h3 hc4;apply yf;apply yc;refine yg ?_
  refine yL (k + 1) (hJ := by
   exact ⟨by omega, hst⟩) (hI := yq)
 ·obtain rfl : k = l.length := by omega
  have hV := zuw h0 hk2;apply X.exit;apply yb;refine ye ?_;refine X.ret ?_;refine yh ?_;all_goals (rw [hV])
theorem zh8 (s : Sp) (h : Hb) : Fn Tryz.prog 143 [spA s, hbA h] (.bool (usQ s h)) := by
 refine Fn.go Tryz.func143 Tryz.ntmps143 (fun g w d => ?_);apply yb;iterate 2 refine yD ?_
 refine ye ?_;apply yd;apply yb;refine yg ?_;apply X.block;apply yd;apply yb;refine yg ?_;refine yk rfl ?_ ?_<;>intro hc1
 ·apply yf;refine yk rfl ?_ ?_<;>intro hc2
  ·apply yb;refine yo ?_;refine X.ret ?_;refine yh ?_;all_goals (first | (simp [usQ, *]; done) | (simp_all [usQ]; done) | (exfalso; omega))
  apply yb;refine yg ?_;refine yk rfl ?_ ?_<;>intro hc3
  ·apply yb;(iterate 2 refine ya ?_);refine ExF.at 2 ?_;refine yO ?_;(iterate 2 refine ExF.gi ?_);refine yF ?_;refine yg ?_;refine X.ret ?_;refine yh ?_;all_goals (first | (simp [usQ, *]; done) | (simp_all [usQ]; done) | (exfalso; omega))
  apply yb;refine yg ?_;refine yk rfl ?_ ?_<;>intro hc4
  ·apply yb;refine yo ?_;refine X.ret ?_;refine yh ?_;all_goals (first | (simp [usQ, *]; done) | (simp_all [usQ]; done) | (exfalso; omega))
  apply yb;refine yg ?_;refine yk rfl ?_ ?_<;>intro hc5
  ·apply yb;refine yo ?_;refine X.ret ?_;refine yh ?_;all_goals (first | (simp [usQ, *]; done) | (simp_all [usQ]; done) | (exfalso; omega))
  apply yf;apply yb;refine ye ?_;refine X.ret ?_;refine yh ?_;all_goals (first | (simp [usQ, *]; done) | (simp_all [usQ]; done) | (exfalso; omega))
 ·apply yc;refine yg ?_;refine yk rfl ?_ ?_<;>intro hc6
  ·apply yb;refine yo ?_;refine X.ret ?_;refine yh ?_;all_goals (first | (simp [usQ, *]; done) | (simp_all [usQ]; done) | (exfalso; omega))
  apply yb;refine yg ?_;refine yk rfl ?_ ?_<;>intro hc7
  ·apply yb;(iterate 2 refine ya ?_);refine ExF.at 2 ?_;refine yO ?_;(iterate 2 refine ExF.gi ?_);refine yF ?_;refine yg ?_;refine X.ret ?_;refine yh ?_;all_goals (first | (simp [usQ, *]; done) | (simp_all [usQ]; done) | (exfalso; omega))
  apply yb;refine yg ?_;refine yk rfl ?_ ?_<;>intro hc8
  ·apply yb;refine yo ?_;refine X.ret ?_;refine yh ?_;all_goals (first | (simp [usQ, *]; done) | (simp_all [usQ]; done) | (exfalso; omega))
  apply yb;refine yg ?_;refine yk rfl ?_ ?_<;>intro hc9
  ·apply yb;refine yo ?_;refine X.ret ?_;refine yh ?_;all_goals (first | (simp [usQ, *]; done) | (simp_all [usQ]; done) | (exfalso; omega))
  apply yf;apply yb;refine ye ?_;refine X.ret ?_;refine yh ?_;all_goals (first | (simp [usQ, *]; done) | (simp_all [usQ]; done) | (exfalso; omega))
theorem zL (b : Bool) : Fn Tryz.prog 188 [.bool b] (iv (b2i b)) := by
 refine Fn.go Tryz.func188 Tryz.ntmps188 (fun g w d => ?_);apply yb;refine ye ?_;apply yd;apply yb;refine ye ?_;refine yk rfl ?_ ?_<;>intro hc1
 ·apply yb;refine ye ?_;refine X.ret ?_;refine yh ?_;all_goals (first | (simp [b2i, *]; done) | (simp_all [b2i]; done))
 apply yf;apply yb;refine ye ?_;refine X.ret ?_;refine yh ?_;all_goals (first | (simp [b2i, *]; done) | (simp_all [b2i]; done))
theorem zcz (x : Int) : Fn Tryz.prog 166 [iv x] (.bool false) := by
 refine Fn.go Tryz.func166 Tryz.ntmps166 (fun g w d => ?_);apply yb;refine ya ?_;apply yj;refine z6 ?_;refine X.ret ?_;refine yh ?_;all_goals (simp)
theorem zaS (x y : Int) : Fn Tryz.prog 126 [iv x, iv y] (iv (cmpI x y)) := by
 refine Fn.go Tryz.func126 Tryz.ntmps126 (fun g w d => ?_);apply yb;refine ya ?_;apply yj;refine ya ?_;refine ym (zcz x) ?_;refine ya ?_;apply yj;refine ya ?_;refine ym (zcz y) ?_;refine ye ?_;apply yd;apply yb;refine ye ?_;refine yk rfl ?_ ?_<;>intro hc1
 ·apply yd;apply yb;refine ye ?_;refine yk rfl ?_ ?_<;>intro hc2
  ·apply yb;refine ye ?_;refine X.ret ?_;refine yh ?_;all_goals (first | (simp [cmpI, *]; done) | (simp_all [cmpI]; done) | (unfold cmpI; simp; omega))
  apply yf;apply yb;refine ye ?_;refine X.ret ?_;refine yh ?_;all_goals (first | (simp [cmpI, *]; done) | (simp_all [cmpI]; done) | (unfold cmpI; simp; omega))
 apply yf;apply yd;apply yb;refine ye ?_;refine yk rfl ?_ ?_<;>intro hc3
 ·apply yb;refine ye ?_;refine X.ret ?_;refine yh ?_;all_goals (first | (simp [cmpI, *]; done) | (simp_all [cmpI]; done) | (unfold cmpI; simp; omega))
 apply yf;apply yd;apply yb;refine yo ?_;refine yk rfl ?_ ?_<;>intro hc4
 ·apply yb;refine ye ?_;refine X.ret ?_;refine yh ?_;all_goals (first | (simp [cmpI, *]; done) | (simp_all [cmpI]; done) | (unfold cmpI; simp; omega))
 apply yf;apply yd;apply yb;refine yo ?_;refine yk rfl ?_ ?_<;>intro hc5
 ·apply yb;refine ye ?_;refine X.ret ?_;refine yh ?_;all_goals (first | (simp [cmpI, *]; done) | (simp_all [cmpI]; done) | (unfold cmpI; simp; omega))
 apply yf;apply yb;refine ye ?_;refine X.ret ?_;refine yh ?_;all_goals (first | (simp [cmpI, *]; done) | (simp_all [cmpI]; done) | (unfold cmpI; simp; omega))
theorem zh9 (l : List Int) (hl : l.length <= 4000000000) : Fn Tryz.prog 125 [yl l] (iv (orV l)) := by
 refine Fn.go Tryz.func125 Tryz.ntmps125 (fun g w d => ?_);apply yb;refine ya ?_;apply yj;refine ye ?_;apply yd;apply yb;refine yo ?_;apply X.block
 refine zj (ι := Nat) (fun (k : Nat) => [(3, iv 0), (6, yl l), (7, iv (l.length : Int)), (8, iv (k : Int))]) (fun (k : Nat) => []) (fun (k : Nat) => k <= l.length /\ orV l = orV (l.drop k)) (fun (k : Nat) => l.length - k) 0 (fun k hk => ?_) (hJ := by
  exact ⟨by omega, rfl⟩) (h0 := by
  exact yq)
 obtain ⟨hk1, hk2⟩ := hk;apply yb;refine ye ?_;apply yd;refine yk rfl ?_ ?_<;>intro hc1
 ·obtain ⟨x, hx⟩ : ∃ x, l[k]? = some x := ⟨_, lgg (by omega)⟩;have hx2 : l[(k : Int).toNat]? = some x := by simpa using hx
  have ho := zrX hx;apply yf;apply yd;apply X.block;apply yb;iterate 3 refine ya ?_
  apply yj;refine yo ?_;refine yk rfl ?_ ?_<;>intro hc2
  ·have hV : orV l = x := by rw [hk2, ho, if_neg hc2]
   apply yb;refine yg ?_;refine X.ret ?_;refine yh ?_;all_goals (rw [hV])
  have hst : orV l = orV (l.drop (k + 1)) := by rw [hk2, ho, if_pos (by omega)]
  apply yf;apply yc;refine yg ?_
  refine yL (k + 1) (hJ := by
   exact ⟨by omega, hst⟩) (hI := yq)
 ·obtain rfl : k = l.length := by omega
  have hV : orV l = 0 := by rw [hk2, List.drop_length]; rfl
  apply X.exit;apply yb;refine yg ?_;refine X.ret ?_;refine yh ?_;all_goals (rw [hV])
set_option maxHeartbeats 2000000 in
theorem zdS (f q : Fo) : Fn Tryz.prog 145 [foA f, foA q] (iv (foC f q)) := by
 refine Fn.go Tryz.func145 Tryz.ntmps145 (fun g w d => ?_);apply yb;iterate 2 refine yD ?_
 refine ya ?_;apply yj;refine ye ?_;apply yd;refine zv [4,6,7,8,9,10,11,12,13,14,15,16,17,18,19,20,21,22,23,24,25,26,27,28,29,30] [0,1,0,4,15,0,0,64,255,0,0,1024,4095,8191,0,0,32768,131071,0,0,524288,2097151,4194303,8388607,16777215,33554431] mo ?_;iterate 4 refine yi ?_
 refine za (zaS f.v q.v) ?_;iterate 3 refine yi ?_
 refine za (zL f.c) ?_;iterate 3 refine yi ?_
 refine za (zL q.c) ?_;refine za (zaS (b2i f.c) (b2i q.c)) ?_;iterate 3 refine yi ?_
 refine za (zL f.d) ?_;iterate 3 refine yi ?_
 refine za (zL q.d) ?_;refine za (zaS (b2i f.d) (b2i q.d)) ?_;refine ChM.step rfl rfl rfl (yG (enc := intE) (l := [cmpI f.v q.v, cmpI (b2i f.c) (b2i q.c), cmpI (b2i f.d) (b2i q.d)]) sl61 ty3 ze3 (by decide) rfl rfl rfl rfl (by decide) (by decide) (fun _ => rfl) rfl) rfl ?_;refine za (zh9 [cmpI f.v q.v, cmpI (b2i f.c) (b2i q.c), cmpI (b2i f.d) (b2i q.d)] (by simp)) ?_;refine yi ?_;refine y4 ?_;apply Ex.nil;refine X.ret ?_;refine yh ?_;all_goals (first | rfl | (simp_all; done))
set_option maxHeartbeats 2000000 in
theorem zdT (f : Fo) (r : Bool) : Fn Tryz.prog 146 [foA f, .bool r] (sgsA (foS r f)) := by
 refine Fn.go Tryz.func146 Tryz.ntmps146 (fun g w d => ?_);apply yb;refine yD ?_;refine ya ?_;apply yj;iterate 5 refine ya ?_
 refine yC ?_;refine Ex.mo ?_;apply Ex.nil;apply yd;apply yb;refine ye ?_;refine yk rfl ?_ ?_<;>intro hc1
 ·apply yc;iterate 3 refine ya ?_
  refine Ex.mo ?_;apply Ex.nil;apply yd;apply yb;refine yg ?_;refine yk rfl ?_ ?_<;>intro hc2
  ·apply yb;(iterate 2 refine ya ?_);refine yQ sgE [⟨2, f.v, 0, 0, false, 0, false, false, ⟨0, 0, 0, 0⟩, false, 0, 0, 0, 0⟩, ⟨3, 0, 0, 0, false, 0, false, false, ⟨0, 0, 0, 0⟩, false, 0, 0, 0, 0⟩] ?_;refine ye ?_;refine X.ret ?_;refine RetQ.imp (Imp.freeze (k := 19) rfl) ?_;refine yh ?_;all_goals (exact congrArg (fun z => sgsA z) (by simp [foS, *]))
  apply yf;apply yb;refine ya ?_;refine yQ sgE [⟨2, f.v, 0, 0, false, 0, false, false, ⟨0, 0, 0, 0⟩, false, 0, 0, 0, 0⟩] ?_;refine ye ?_;refine X.ret ?_;refine RetQ.imp (Imp.freeze (k := 21) rfl) ?_;refine yh ?_;all_goals (exact congrArg (fun z => sgsA z) (by simp [foS, *]))
 ·apply yf;apply yd;apply yb;refine yg ?_;refine yk rfl ?_ ?_<;>intro hc3
  ·apply yb;(iterate 2 refine ya ?_);refine yQ sgE [⟨1, f.v, 4, 0, f.c, 0, false, false, ⟨0, 0, 0, 0⟩, false, 0, 0, 0, 0⟩, ⟨3, 0, 0, 0, false, 0, false, false, ⟨0, 0, 0, 0⟩, false, 0, 0, 0, 0⟩] ?_;refine ye ?_;refine X.ret ?_;refine RetQ.imp (Imp.freeze (k := 19) rfl) ?_;refine yh ?_;all_goals (exact congrArg (fun z => sgsA z) (by simp [foS, *]))
  apply yf;apply yb;refine ya ?_;refine yQ sgE [⟨1, f.v, 4, 0, f.c, 0, false, false, ⟨0, 0, 0, 0⟩, false, 0, 0, 0, 0⟩] ?_;refine ye ?_;refine X.ret ?_;refine RetQ.imp (Imp.freeze (k := 21) rfl) ?_;refine yh ?_;all_goals (exact congrArg (fun z => sgsA z) (by simp [foS, *]))
theorem zen (l : List Bt) (hl : l.length <= 4000000000) : Fn Tryz.prog 103 [btsA l] (tmsA (durB l)) := by
 have hz0 : [] = durB (l.take 0) := rfl;refine Fn.go Tryz.func103 Tryz.ntmps103 (fun g w d => ?_);apply yb;refine ya ?_;apply yj;refine ye ?_;iterate 2 apply yd
 refine X.imp (y9 tmE 40 2 3 30 rfl rfl) ?_;apply yc;refine yo ?_;apply X.block
 refine zj (ι := Nat) (fun (k : Nat) => [(6, btsA l), (7, iv (l.length : Int)), (8, iv (k : Int)), (3, .own 30)]) (fun (k : Nat) => [(30, .row tmE (durB (l.take k)) 40 2)]) (fun (k : Nat) => k <= l.length) (fun (k : Nat) => l.length - k) 0 (fun k hk => ?_) (h0 := by
  exact yq)
 apply yb;refine ye ?_;apply yd;refine yk rfl ?_ ?_<;>intro hc1
 ·obtain ⟨b, hb⟩ : ∃ b, l[k]? = some b := ⟨_, lgg (by omega)⟩;have hb2 : l[(k : Int).toNat]? = some b := by simpa using hb
  have hst := zmo hb;have hlt : (durB (l.take k)).length <= l.length := by rw [zgb, List.length_take]; omega
  apply yf;apply yd;apply X.block;apply yb;iterate 2 refine ya ?_
  refine yC ?_;refine Ex.mo ?_;apply Ex.nil;apply yc;iterate 3 refine ya ?_
  refine yQ tmE [b.Dur] ?_;refine Ex.mo ?_;refine ye ?_;apply yc;refine yg ?_;refine yL (k + 1) (hI := yq)
 ·obtain rfl : k = l.length := by omega
  have hV : durB (l.take l.length) = durB l := by rw [List.take_length]
  apply X.exit;apply yb;refine yg ?_;refine X.ret ?_;refine RetQ.imp (Imp.freeze (k := 30) rfl) ?_;refine yh ?_;all_goals (exact congrArg (fun z => tmsA z) hV)
theorem zia (b : Bt) (r : Bool) : Fn Tryz.prog 101 [btA b, .bool r] (.bool (decide (b.Rest = r))) := by
 refine Fn.go Tryz.func101 Tryz.ntmps101 (fun g w d => ?_);apply yb;refine yD ?_;refine ya ?_;apply yj;refine zw ?_;refine X.ret ?_;refine yh ?_;all_goals (first | rfl | simp)
end Go.Rse
namespace Go.Rse
open Go Go.RowKit
section
variable {κ : Type} [DecidableEq κ]
def kyK (L : List κ) : List (κ × Bool) := L.foldl (fun a t => kput t true a) []
theorem zeo (L : List κ) (t : κ) : kput t true (kyK L) = kyK (L ++ [t]) := by
 unfold kyK; rw [List.foldl_append]; rfl
theorem kyKG : ∀ (L : List κ) (a : List (κ × Bool)), (a.map (·.1)).Nodup -> ((L.foldl (fun a t => kput t true a) a).map (·.1)).Nodup /\ ∀ x, x ∈ (L.foldl (fun a t => kput t true a) a).map (·.1) ↔ x ∈ a.map (·.1) \/ x ∈ L
 | [], a, h => ⟨h, fun x => by simp⟩
 | t :: L, a, h => by
  have hk := zlo t true a
  have h1 : ((kput t true a).map (·.1)).Nodup := by
   rw [hk]; split
   ·exact h
   ·rename_i hn;refine List.nodup_append.2 ⟨h, by simp, fun x hx y hy e => ?_⟩;simp at hy; subst hy; subst e; exact hn hx
  obtain ⟨i1, i2⟩ := kyKG L (kput t true a) h1;refine ⟨i1, fun x => ?_⟩;show x ∈ (L.foldl (fun a t => kput t true a) (kput t true a)).map (·.1) ↔ _;rw [i2 x, hk];split
  ·rename_i hm;constructor
   ·rintro (h | h)
    ·exact .inl h
    ·exact .inr (List.mem_cons_of_mem _ h)
   ·rintro (h | h)
    ·exact .inl h
    ·rcases List.mem_cons.1 h with rfl | h
     ·exact .inl hm
     ·exact .inr h
  ·rw [List.mem_append, List.mem_singleton, List.mem_cons, or_assoc]
theorem znS (L : List κ) : ((kyK L).map (·.1)).Nodup /\ ∀ x, x ∈ (kyK L).map (·.1) ↔ x ∈ L := by
 obtain ⟨h1, h2⟩ := kyKG L [] (by simp);exact ⟨h1, fun x => (h2 x).trans (by simp)⟩
theorem znT (L : List κ) : (kyK L).length <= L.length := by
 have key : ∀ (L : List κ) (a : List (κ × Bool)), (L.foldl (fun a t => kput t true a) a).length <= a.length + L.length := by
  intro L
  induction L with
  | nil => intro a; simp
  | cons t r ih =>
   intro a;have h1 := ih (kput t true a);have h2 : (kput t true a).length <= a.length + 1 := by unfold kput; split <;> simp
   simp only [List.foldl_cons, List.length_cons]; omega
 have := key L [];unfold kyK; simpa using this
end
structure RnJ (n : Nat) (s : Array Nat) : Prop where
 nd : s.toList.Nodup
 lt : ∀ x ∈ s.toList, x < n
theorem zrY (n : Nat) : RnJ n #[] := ⟨by simp, by simp⟩
theorem RnJ.s {n i : Nat} {s : Array Nat} (h : RnJ n s) (hi : i < n) (hc : s.contains i = false) : RnJ n (s.push i) := by
 have hn : i ∉ s.toList := fun hm => by
  have : s.contains i = true := by simpa using hm
  rw [hc] at this; cases this
 refine ⟨?_, fun x hx => ?_⟩
 ·rw [Array.toList_push];refine List.nodup_append.2 ⟨h.nd, by simp, fun x hx y hy e => ?_⟩;simp at hy; subst hy; subst e; exact hn hx
 ·rw [Array.toList_push] at hx;rcases List.mem_append.1 hx with hx | hx
  ·exact h.lt x hx
  ·simp at hx; omega
theorem zkt : ∀ (n : Nat) (L : List Nat), L.Nodup -> (∀ x ∈ L, x < n) -> L.length <= n
 | 0, L, _, h => by
  cases L with
  | nil => simp
  | cons x r => exact absurd (h x (by simp)) (by omega)
 | n + 1, L, h1, h2 => by
  have h3 := zkt n (L.erase n) (h1.erase n) fun x hx => by
   have := h2 x (List.mem_of_mem_erase hx)
   have hne : x ≠ n := fun e => by
    subst e;exact (List.Nodup.not_mem_erase h1) hx
   omega
  have := List.length_erase (a := n) (l := L);split at this <;> omega
theorem RnJ.le {n : Nat} {s : Array Nat} (h : RnJ n s) : s.size <= n := by
 have := zkt n s.toList h.nd h.lt;simpa using this
section
variable {κ : Type} [Inhabited κ]
def ouK (K : List (κ × Bool)) (s : Array Nat) : List κ := s.toList.map fun i => (K.getD i default).1
theorem zrZ (K : List (κ × Bool)) : [] = ouK K #[] := rfl
theorem zr0 {K : List (κ × Bool)} {s : Array Nat} {i : Nat} {p : κ × Bool} (h : K[i]? = some p) : ouK K s ++ [p.1] = ouK K (s.push i) := by
 unfold ouK; rw [Array.toList_push, List.map_append, List.map_cons, List.map_nil, List.getD_eq_getElem?_getD, h]; rfl
theorem zku (K : List (κ × Bool)) (s : Array Nat) : (ouK K s).length = s.size := by unfold ouK; simp
theorem znU [DecidableEq κ] {L : List κ} {s : Array Nat} (h : RnJ (kyK L).length s) (hs : ∀ i, i < (kyK L).length -> s.contains i = true) : (ouK (kyK L) s).Nodup /\ ∀ x, x ∈ ouK (kyK L) s ↔ x ∈ L := by
 obtain ⟨k1, k2⟩ := znS L;refine ⟨?_, fun x => ?_⟩
 ·unfold ouK;rw [List.Nodup, List.pairwise_map];refine List.Pairwise.imp_of_mem (fun {a b} ha hb hab e => ?_) h.nd;have la := h.lt a ha;have lb := h.lt b hb;rw [List.getD_eq_getElem?_getD, List.getD_eq_getElem?_getD, lgg la, lgg lb] at e;simp only [Option.getD_some] at e;have h1 : ((kyK L).map (·.1))[a]'(by simpa using la) = ((kyK L).map (·.1))[b]'(by simpa using lb) := by simpa using e
  have pw := List.pairwise_iff_getElem.1 k1;rcases Nat.lt_trichotomy a b with h2 | h2 | h2
  ·exact pw a b (by simpa using la) (by simpa using lb) h2 h1
  ·exact hab h2
  ·exact pw b a (by simpa using lb) (by simpa using la) h2 h1.symm
 ·rw [← k2 x];constructor
  ·intro hx;unfold ouK at hx;obtain ⟨i, hi, rfl⟩ := List.mem_map.1 hx;have hl := h.lt i hi;rw [List.getD_eq_getElem?_getD, lgg hl];exact List.mem_map.2 ⟨_, List.getElem_mem hl, rfl⟩
  ·intro hx;obtain ⟨p, hp, rfl⟩ := List.mem_map.1 hx;obtain ⟨i, hi⟩ := List.mem_iff_getElem?.1 hp;have hil := (List.getElem?_eq_some_iff.1 hi).1;unfold ouK;refine List.mem_map.2 ⟨i, by simpa using hs i hil, ?_⟩;rw [List.getD_eq_getElem?_getD, hi]; rfl
end
end Go.Rse
