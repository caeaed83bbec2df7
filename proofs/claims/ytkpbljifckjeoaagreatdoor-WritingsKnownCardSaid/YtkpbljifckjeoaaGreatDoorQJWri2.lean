/-
  Walks: beats and forms (write.Check, used, form.order, form.signs, durs).
-/
import Derived.Test.YtkpbljifckjeoaaGreatDoorQJSlc2
import Derived.Test.YtkpbljifckjeoaaGreatDoorQJSpan1
import Derived.Test.YtkpbljifckjeoaaGreatDoorQJTime
import Derived.Test.YtkpbljifckjeoaaGreatDoorQLogC
set_option linter.unusedSimpArgs false
set_option linter.unusedVariables false
namespace Go.Rse
open Go Go.Proofs
theorem zuA {m : Mn} {l : List Bt} (h : ¬ ckM m = 0) : wcE m l = ckM m := by unfold wcE; rw [if_neg h]
theorem zuB {m : Mn} {l : List Bt} {k : Nat} {b : Bt} (h0 : ckM m = 0) (hb : l[k]? = some b) (h2 : btF (l.take k) = 0) (h : ¬ ckT b.Dur = 0) : wcE m l = ckT b.Dur := by
 have e := zjD hb h2;have e2 : btC b = ckT b.Dur := by unfold btC; rw [if_neg h]
 unfold wcE; rw [if_pos h0, ziT (i := k + 1) (by rw [e, e2]; exact h), e, e2]
theorem zuC {m : Mn} {l : List Bt} {k : Nat} {b : Bt} (h0 : ckM m = 0) (hb : l[k]? = some b) (h2 : btF (l.take k) = 0) (h : ckT b.Dur = 0) (h3 : b.Dur.N = 0) : wcE m l = 2 := by
 have e := zjD hb h2;have e2 : btC b = 2 := by unfold btC; rw [if_pos h, if_pos h3]
 unfold wcE; rw [if_pos h0, ziT (i := k + 1) (by rw [e, e2]; decide), e, e2]
theorem zuD {l : List Bt} {k : Nat} {b : Bt} (hb : l[k]? = some b) (h2 : btF (l.take k) = 0) (h : ckT b.Dur = 0) (h3 : ¬ b.Dur.N = 0) : btF (l.take (k + 1)) = 0 := by
 rw [zjD hb h2]; unfold btC; rw [if_pos h, if_neg h3]
theorem zuE {m : Mn} {l : List Bt} (h0 : ckM m = 0) (h : btF (l.take l.length) = 0) : wcE m l = 0 := by
 rw [List.take_length] at h; unfold wcE; rw [if_pos h0, h]
def durB (l : List Bt) : List Tm := l.map (·.Dur)
theorem zqq {l : List Bt} {k : Nat} {b : Bt} (h : l[k]? = some b) : durB (l.take k) ++ [b.Dur] = durB (l.take (k + 1)) := by
 unfold durB; rw [List.take_add_one, h]; simp
theorem zmx (l : List Bt) : (durB l).length = l.length := by unfold durB; simp
def cmpI (a b : Int) : Int := if a < b then -1 else if b < a then 1 else 0
def orV : List Int -> Int
 | [] => 0
 | x :: r => if x = 0 then orV r else x
theorem zr3 {l : List Int} {k : Nat} {x : Int} (h : l[k]? = some x) : orV (l.drop k) = if x = 0 then orV (l.drop (k + 1)) else x := by
 have h1 := List.getElem?_eq_some_iff.1 h;rw [List.drop_eq_getElem_cons h1.1, h1.2]; rfl
def foC (f g : Fo) : Int := orV [cmpI f.v g.v, cmpI (b2i f.c) (b2i g.c), cmpI (b2i f.d) (b2i g.d)]
theorem zX (f g : Fo) : (foC f g < 0 ↔ foN f < foN g) /\ (foC f g = 0 ↔ foN f = foN g) := by
 have h1 := zaf f.c;have h2 := zaf g.c;have h3 := zaf f.d;have h4 := zaf g.d;unfold foC foN;generalize b2i f.c = a at *
 generalize b2i g.c = b at *
 generalize b2i f.d = c at *
 generalize b2i g.d = d at *
 generalize f.v = x;generalize g.v = y;simp only [orV, cmpI];constructor <;> (repeat' split) <;> omega
attribute [local irreducible] Pur yC yE Ex X Fn Imp LeV LeB FnO It yJ
attribute [local irreducible] wcE btF ckT ckM
theorem zdT (m : Mn) (l : List Bt) (hl : l.length <= 4000000000) : Fn Tryz.prog 51 [mnA m, btsA l] (iv (wcE m l)) := by
 refine Fn.go Tryz.func51 Tryz.ntmps51 (fun g w d => ?_);apply yb;refine yF ?_;refine ye ?_;apply yd;apply yb;refine ya ?_;refine yj (zaq ..) ?_;refine ya ?_;apply yi;refine yg ?_;refine yl rfl ?_ ?_<;>intro hc1
 ·have hV := zuA (l := l) hc1;apply yb;refine yg ?_;refine X.ret ?_;refine yh ?_;all_goals (rw [hV])
 have h0 : ckM m = 0 := by omega
 apply yf;apply yd;apply yb;refine yo ?_;apply X.block
 refine zl (ι := Nat) (fun (k : Nat) => [(14, btsA l), (15, iv (l.length : Int)), (16, iv (k : Int))]) (fun (k : Nat) => []) (fun (k : Nat) => k <= l.length /\ btF (l.take k) = 0) (fun (k : Nat) => l.length - k) 0 (fun k hk => ?_) (hJ := by
  exact ⟨by omega, by unfold btF; rfl⟩) (h0 := by
  exact yq)
 obtain ⟨hk1, hk2⟩ := hk;apply yb;refine ye ?_;apply yd;refine yl rfl ?_ ?_<;>intro hc2
 ·obtain ⟨b, hb⟩ : ∃ b, l[k]? = some b := ⟨_, lgg (by omega)⟩;have hb2 : l[(k : Int).toNat]? = some b := by simpa using hb
  apply yf;apply yd;apply X.block;apply yb;iterate 2 refine ya ?_
  refine yD ?_;refine Ex.mo ?_;apply Ex.nil;apply yd;apply yb;iterate 2 refine ya ?_
  refine yj (zbu ..) ?_;refine ya ?_;apply yi;refine yg ?_;refine yl rfl ?_ ?_<;>intro hc3
  ·have hV := zuB h0 hb hk2 hc3;apply yb;refine yg ?_;refine X.ret ?_;refine yh ?_;all_goals (rw [hV])
  have h3 : ckT b.Dur = 0 := by omega
  apply yf;apply yb;refine zaj ?_;refine yl rfl ?_ ?_<;>intro hc4
  ·have hV := zuC h0 hb hk2 h3 hc4;apply yb;refine ye ?_;refine X.ret ?_;refine yh ?_;all_goals (rw [hV])
  have hst := zuD hb hk2 h3 hc4;apply yf;apply yc;refine yg ?_
  refine yM (k + 1) (hJ := by
   exact ⟨by omega, hst⟩) (hI := yq)
 ·obtain rfl : k = l.length := by omega
  have hV := zuE h0 hk2;apply X.exit;apply yb;refine ye ?_;refine X.ret ?_;refine yh ?_;all_goals (rw [hV])
theorem zig (s : Sp) (h : Hb) : Fn Tryz.prog 80 [spA s, hbA h] (.bool (usQ s h)) := by
 refine Fn.go Tryz.func80 Tryz.ntmps80 (fun g w d => ?_);apply yb;iterate 2 refine yF ?_
 refine ye ?_;apply yd;apply yb;refine yg ?_;apply X.block;apply yd;apply yb;refine yg ?_;refine yl rfl ?_ ?_<;>intro hc1
 ·apply yf;refine yl rfl ?_ ?_<;>intro hc2
  ·apply yb;refine yo ?_;refine X.ret ?_;refine yh ?_;all_goals (first | (simp [usQ, *]; done) | (simp_all [usQ]; done) | (exfalso; omega))
  apply yb;refine yg ?_;refine yl rfl ?_ ?_<;>intro hc3
  ·apply yb;(iterate 2 refine ya ?_);refine ExF.at 2 ?_;refine yG ?_;(iterate 2 refine ExF.gi ?_);refine yH ?_;refine yg ?_;refine X.ret ?_;refine yh ?_;all_goals (first | (simp [usQ, *]; done) | (simp_all [usQ]; done) | (exfalso; omega))
  apply yb;refine yg ?_;refine yl rfl ?_ ?_<;>intro hc4
  ·apply yb;refine yo ?_;refine X.ret ?_;refine yh ?_;all_goals (first | (simp [usQ, *]; done) | (simp_all [usQ]; done) | (exfalso; omega))
  apply yb;refine yg ?_;refine yl rfl ?_ ?_<;>intro hc5
  ·apply yb;refine yo ?_;refine X.ret ?_;refine yh ?_;all_goals (first | (simp [usQ, *]; done) | (simp_all [usQ]; done) | (exfalso; omega))
  apply yf;apply yb;refine ye ?_;refine X.ret ?_;refine yh ?_;all_goals (first | (simp [usQ, *]; done) | (simp_all [usQ]; done) | (exfalso; omega))
 ·apply yc;refine yg ?_;refine yl rfl ?_ ?_<;>intro hc6
  ·apply yb;refine yo ?_;refine X.ret ?_;refine yh ?_;all_goals (first | (simp [usQ, *]; done) | (simp_all [usQ]; done) | (exfalso; omega))
  apply yb;refine yg ?_;refine yl rfl ?_ ?_<;>intro hc7
  ·apply yb;(iterate 2 refine ya ?_);refine ExF.at 2 ?_;refine yG ?_;(iterate 2 refine ExF.gi ?_);refine yH ?_;refine yg ?_;refine X.ret ?_;refine yh ?_;all_goals (first | (simp [usQ, *]; done) | (simp_all [usQ]; done) | (exfalso; omega))
  apply yb;refine yg ?_;refine yl rfl ?_ ?_<;>intro hc8
  ·apply yb;refine yo ?_;refine X.ret ?_;refine yh ?_;all_goals (first | (simp [usQ, *]; done) | (simp_all [usQ]; done) | (exfalso; omega))
  apply yb;refine yg ?_;refine yl rfl ?_ ?_<;>intro hc9
  ·apply yb;refine yo ?_;refine X.ret ?_;refine yh ?_;all_goals (first | (simp [usQ, *]; done) | (simp_all [usQ]; done) | (exfalso; omega))
  apply yf;apply yb;refine ye ?_;refine X.ret ?_;refine yh ?_;all_goals (first | (simp [usQ, *]; done) | (simp_all [usQ]; done) | (exfalso; omega))
theorem zS (b : Bool) : Fn Tryz.prog 114 [.bool b] (iv (b2i b)) := by
 refine Fn.go Tryz.func114 Tryz.ntmps114 (fun g w d => ?_);apply yb;refine ye ?_;apply yd;apply yb;refine ye ?_;refine yl rfl ?_ ?_<;>intro hc1
 ·apply yb;refine ye ?_;refine X.ret ?_;refine yh ?_;all_goals (first | (simp [b2i, *]; done) | (simp_all [b2i]; done))
 apply yf;apply yb;refine ye ?_;refine X.ret ?_;refine yh ?_;all_goals (first | (simp [b2i, *]; done) | (simp_all [b2i]; done))
theorem zcK (x : Int) : Fn Tryz.prog 59 [iv x] (.bool false) := by
 refine Fn.go Tryz.func59 Tryz.ntmps59 (fun g w d => ?_);apply yb;refine ya ?_;apply yi;refine zaj ?_;refine X.ret ?_;refine yh ?_;all_goals (simp)
theorem zT (x y : Int) : Fn Tryz.prog 41 [iv x, iv y] (iv (cmpI x y)) := by
 refine Fn.go Tryz.func41 Tryz.ntmps41 (fun g w d => ?_);apply yb;refine ya ?_;apply yi;refine ya ?_;refine yj (zcK x) ?_;refine ya ?_;apply yi;refine ya ?_;refine yj (zcK y) ?_;refine ye ?_;apply yd;apply yb;refine ye ?_;refine yl rfl ?_ ?_<;>intro hc1
 ·apply yd;apply yb;refine ye ?_;refine yl rfl ?_ ?_<;>intro hc2
  ·apply yb;refine ye ?_;refine X.ret ?_;refine yh ?_;all_goals (first | (simp [cmpI, *]; done) | (simp_all [cmpI]; done) | (unfold cmpI; simp; omega))
  apply yf;apply yb;refine ye ?_;refine X.ret ?_;refine yh ?_;all_goals (first | (simp [cmpI, *]; done) | (simp_all [cmpI]; done) | (unfold cmpI; simp; omega))
 apply yf;apply yd;apply yb;refine ye ?_;refine yl rfl ?_ ?_<;>intro hc3
 ·apply yb;refine ye ?_;refine X.ret ?_;refine yh ?_;all_goals (first | (simp [cmpI, *]; done) | (simp_all [cmpI]; done) | (unfold cmpI; simp; omega))
 apply yf;apply yd;apply yb;refine yo ?_;refine yl rfl ?_ ?_<;>intro hc4
 ·apply yb;refine ye ?_;refine X.ret ?_;refine yh ?_;all_goals (first | (simp [cmpI, *]; done) | (simp_all [cmpI]; done) | (unfold cmpI; simp; omega))
 apply yf;apply yd;apply yb;refine yo ?_;refine yl rfl ?_ ?_<;>intro hc5
 ·apply yb;refine ye ?_;refine X.ret ?_;refine yh ?_;all_goals (first | (simp [cmpI, *]; done) | (simp_all [cmpI]; done) | (unfold cmpI; simp; omega))
 apply yf;apply yb;refine ye ?_;refine X.ret ?_;refine yh ?_;all_goals (first | (simp [cmpI, *]; done) | (simp_all [cmpI]; done) | (unfold cmpI; simp; omega))
theorem zev (l : List Int) (hl : l.length <= 4000000000) : Fn Tryz.prog 40 [ym l] (iv (orV l)) := by
 refine Fn.go Tryz.func40 Tryz.ntmps40 (fun g w d => ?_);apply yb;refine ya ?_;apply yi;refine ye ?_;apply yd;apply yb;refine yo ?_;apply X.block
 refine zl (ι := Nat) (fun (k : Nat) => [(3, iv 0), (6, ym l), (7, iv (l.length : Int)), (8, iv (k : Int))]) (fun (k : Nat) => []) (fun (k : Nat) => k <= l.length /\ orV l = orV (l.drop k)) (fun (k : Nat) => l.length - k) 0 (fun k hk => ?_) (hJ := by
  exact ⟨by omega, rfl⟩) (h0 := by
  exact yq)
 obtain ⟨hk1, hk2⟩ := hk;apply yb;refine ye ?_;apply yd;refine yl rfl ?_ ?_<;>intro hc1
 ·obtain ⟨x, hx⟩ : ∃ x, l[k]? = some x := ⟨_, lgg (by omega)⟩;have hx2 : l[(k : Int).toNat]? = some x := by simpa using hx
  have ho := zr3 hx;apply yf;apply yd;apply X.block;apply yb;iterate 3 refine ya ?_
  apply yi;refine yo ?_;refine yl rfl ?_ ?_<;>intro hc2
  ·have hV : orV l = x := by rw [hk2, ho, if_neg hc2]
   apply yb;refine yg ?_;refine X.ret ?_;refine yh ?_;all_goals (rw [hV])
  have hst : orV l = orV (l.drop (k + 1)) := by rw [hk2, ho, if_pos (by omega)]
  apply yf;apply yc;refine yg ?_
  refine yM (k + 1) (hJ := by
   exact ⟨by omega, hst⟩) (hI := yq)
 ·obtain rfl : k = l.length := by omega
  have hV : orV l = 0 := by rw [hk2, List.drop_length]; rfl
  apply X.exit;apply yb;refine yg ?_;refine X.ret ?_;refine yh ?_;all_goals (rw [hV])
set_option maxHeartbeats 2000000 in
theorem zd1 (f q : Fo) : Fn Tryz.prog 82 [foA f, foA q] (iv (foC f q)) := by
 refine Fn.go Tryz.func82 Tryz.ntmps82 (fun g w d => ?_);apply yb;iterate 2 refine yF ?_
 refine ya ?_;apply yi;refine ye ?_;apply yd;refine zz [4,6,7,8,9,10,11,12,13,14,15,16,17,18,19,20,21,22,23,24,25,26,27,28,29,30] [0,1,0,4,15,0,0,64,255,0,0,1024,4095,8191,0,0,32768,131071,0,0,524288,2097151,4194303,8388607,16777215,33554431] mo ?_;iterate 4 refine yk ?_
 refine y9 (zT f.v q.v) ?_;iterate 3 refine yk ?_
 refine y9 (zS f.c) ?_;iterate 3 refine yk ?_
 refine y9 (zS q.c) ?_;refine y9 (zT (b2i f.c) (b2i q.c)) ?_;iterate 3 refine yk ?_
 refine y9 (zS f.d) ?_;iterate 3 refine yk ?_
 refine y9 (zS q.d) ?_;refine y9 (zT (b2i f.d) (b2i q.d)) ?_;refine ChM.step rfl rfl rfl (yy (enc := intE) (l := [cmpI f.v q.v, cmpI (b2i f.c) (b2i q.c), cmpI (b2i f.d) (b2i q.d)]) sl59 ty3 ze3 (by decide) rfl rfl rfl rfl (by decide) (by decide) (fun _ => rfl) rfl) rfl ?_;refine y9 (zev [cmpI f.v q.v, cmpI (b2i f.c) (b2i q.c), cmpI (b2i f.d) (b2i q.d)] (by simp)) ?_;refine yk ?_;refine yX ?_;apply Ex.nil;refine X.ret ?_;refine yh ?_;all_goals (first | rfl | (simp_all; done))
set_option maxHeartbeats 2000000 in
theorem zd2 (f : Fo) (r : Bool) : Fn Tryz.prog 83 [foA f, .bool r] (sgsA (foS r f)) := by
 refine Fn.go Tryz.func83 Tryz.ntmps83 (fun g w d => ?_);apply yb;refine yF ?_;refine ya ?_;apply yi;iterate 5 refine ya ?_
 refine yD ?_;refine Ex.mo ?_;apply Ex.nil;apply yd;apply yb;refine ye ?_;refine yl rfl ?_ ?_<;>intro hc1
 ·apply yc;iterate 3 refine ya ?_
  refine Ex.mo ?_;apply Ex.nil;apply yd;apply yb;refine yg ?_;refine yl rfl ?_ ?_<;>intro hc2
  ·apply yb;(iterate 2 refine ya ?_);refine yW sgE [⟨2, f.v, 0, 0, false, 0, false, false, ⟨0, 0, 0, 0⟩, false, 0, 0, 0, 0⟩, ⟨3, 0, 0, 0, false, 0, false, false, ⟨0, 0, 0, 0⟩, false, 0, 0, 0, 0⟩] ?_;refine ye ?_;refine X.ret ?_;refine RetQ.imp (Imp.freeze (k := 19) rfl) ?_;refine yh ?_;all_goals (exact congrArg (fun z => sgsA z) (by simp [foS, *]))
  apply yf;apply yb;refine ya ?_;refine yW sgE [⟨2, f.v, 0, 0, false, 0, false, false, ⟨0, 0, 0, 0⟩, false, 0, 0, 0, 0⟩] ?_;refine ye ?_;refine X.ret ?_;refine RetQ.imp (Imp.freeze (k := 21) rfl) ?_;refine yh ?_;all_goals (exact congrArg (fun z => sgsA z) (by simp [foS, *]))
 ·apply yf;apply yd;apply yb;refine yg ?_;refine yl rfl ?_ ?_<;>intro hc3
  ·apply yb;(iterate 2 refine ya ?_);refine yW sgE [⟨1, f.v, 4, 0, f.c, 0, false, false, ⟨0, 0, 0, 0⟩, false, 0, 0, 0, 0⟩, ⟨3, 0, 0, 0, false, 0, false, false, ⟨0, 0, 0, 0⟩, false, 0, 0, 0, 0⟩] ?_;refine ye ?_;refine X.ret ?_;refine RetQ.imp (Imp.freeze (k := 19) rfl) ?_;refine yh ?_;all_goals (exact congrArg (fun z => sgsA z) (by simp [foS, *]))
  apply yf;apply yb;refine ya ?_;refine yW sgE [⟨1, f.v, 4, 0, f.c, 0, false, false, ⟨0, 0, 0, 0⟩, false, 0, 0, 0, 0⟩] ?_;refine ye ?_;refine X.ret ?_;refine RetQ.imp (Imp.freeze (k := 21) rfl) ?_;refine yh ?_;all_goals (exact congrArg (fun z => sgsA z) (by simp [foS, *]))
end Go.Rse
namespace Go.Rse
open Go Go.RowKit
section
variable {κ : Type} [DecidableEq κ]
def kyK (L : List κ) : List (κ × Bool) := L.foldl (fun a t => kput t true a) []
theorem zew (L : List κ) (t : κ) : kput t true (kyK L) = kyK (L ++ [t]) := by
 unfold kyK; rw [List.foldl_append]; rfl
theorem kyKG : ∀ (L : List κ) (a : List (κ × Bool)), (a.map (·.1)).Nodup -> ((L.foldl (fun a t => kput t true a) a).map (·.1)).Nodup /\ ∀ x, x ∈ (L.foldl (fun a t => kput t true a) a).map (·.1) ↔ x ∈ a.map (·.1) \/ x ∈ L
 | [], a, h => ⟨h, fun x => by simp⟩
 | t :: L, a, h => by
  have hk := zlA t true a
  have h1 : ((kput t true a).map (·.1)).Nodup := by
   rw [hk]; split
   ·exact h
   ·rename_i hn;refine List.nodup_append.2 ⟨h, by simp, fun x hx y hy e => ?_⟩;simp at hy; subst hy; subst e; exact hn hx
  obtain ⟨i1, i2⟩ := kyKG L (kput t true a) h1;refine ⟨i1, fun x => ?_⟩;show x ∈ (L.foldl (fun a t => kput t true a) (kput t true a)).map (·.1) ↔ _;rw [i2 x, hk];split
  ·rename_i hm;constructor
   ·rintro (h | h)
    ·exact .inl h
    ·exact .inr (List.mem_cons_of_mem _ h)
   ·rintro (h | h)
    ·exact .inl h
    ·rcases List.mem_cons.1 h with rfl | h
     ·exact .inl hm
     ·exact .inr h
  ·rw [List.mem_append, List.mem_singleton, List.mem_cons, or_assoc]
theorem zn3 (L : List κ) : ((kyK L).map (·.1)).Nodup /\ ∀ x, x ∈ (kyK L).map (·.1) ↔ x ∈ L := by
 obtain ⟨h1, h2⟩ := kyKG L [] (by simp);exact ⟨h1, fun x => (h2 x).trans (by simp)⟩
theorem zn4 (L : List κ) : (kyK L).length <= L.length := by
 have key : ∀ (L : List κ) (a : List (κ × Bool)), (L.foldl (fun a t => kput t true a) a).length <= a.length + L.length := by
  intro L
  induction L with
  | nil => intro a; simp
  | cons t r ih =>
   intro a;have h1 := ih (kput t true a);have h2 : (kput t true a).length <= a.length + 1 := by unfold kput; split <;> simp
   simp only [List.foldl_cons, List.length_cons]; omega
 have := key L [];unfold kyK; simpa using this
end
structure RnJ (n : Nat) (s : Array Nat) : Prop where
 nd : s.toList.Nodup
 lt : ∀ x ∈ s.toList, x < n
theorem zr4 (n : Nat) : RnJ n #[] := ⟨by simp, by simp⟩
theorem RnJ.s {n i : Nat} {s : Array Nat} (h : RnJ n s) (hi : i < n) (hc : s.contains i = false) : RnJ n (s.push i) := by
 have hn : i ∉ s.toList := fun hm => by
  have : s.contains i = true := by simpa using hm
  rw [hc] at this; cases this
 refine ⟨?_, fun x hx => ?_⟩
 ·rw [Array.toList_push];refine List.nodup_append.2 ⟨h.nd, by simp, fun x hx y hy e => ?_⟩;simp at hy; subst hy; subst e; exact hn hx
 ·rw [Array.toList_push] at hx;rcases List.mem_append.1 hx with hx | hx
  ·exact h.lt x hx
  ·simp at hx; omega
theorem zkC : ∀ (n : Nat) (L : List Nat), L.Nodup -> (∀ x ∈ L, x < n) -> L.length <= n
 | 0, L, _, h => by
  cases L with
  | nil => simp
  | cons x r => exact absurd (h x (by simp)) (by omega)
 | n + 1, L, h1, h2 => by
  have h3 := zkC n (L.erase n) (h1.erase n) fun x hx => by
   have := h2 x (List.mem_of_mem_erase hx)
   have hne : x ≠ n := fun e => by
    subst e;exact (List.Nodup.not_mem_erase h1) hx
   omega
  have := List.length_erase (a := n) (l := L);split at this <;> omega
theorem RnJ.le {n : Nat} {s : Array Nat} (h : RnJ n s) : s.size <= n := by
 have := zkC n s.toList h.nd h.lt;simpa using this
section
variable {κ : Type} [Inhabited κ]
def ouK (K : List (κ × Bool)) (s : Array Nat) : List κ := s.toList.map fun i => (K.getD i default).1
theorem zr5 (K : List (κ × Bool)) : [] = ouK K #[] := rfl
theorem zr6 {K : List (κ × Bool)} {s : Array Nat} {i : Nat} {p : κ × Bool} (h : K[i]? = some p) : ouK K s ++ [p.1] = ouK K (s.push i) := by
 unfold ouK; rw [Array.toList_push, List.map_append, List.map_cons, List.map_nil, List.getD_eq_getElem?_getD, h]; rfl
theorem zkD (K : List (κ × Bool)) (s : Array Nat) : (ouK K s).length = s.size := by unfold ouK; simp
theorem zn5 [DecidableEq κ] {L : List κ} {s : Array Nat} (h : RnJ (kyK L).length s) (hs : ∀ i, i < (kyK L).length -> s.contains i = true) : (ouK (kyK L) s).Nodup /\ ∀ x, x ∈ ouK (kyK L) s ↔ x ∈ L := by
 obtain ⟨k1, k2⟩ := zn3 L;refine ⟨?_, fun x => ?_⟩
 ·unfold ouK;rw [List.Nodup, List.pairwise_map];refine List.Pairwise.imp_of_mem (fun {a b} ha hb hab e => ?_) h.nd;have la := h.lt a ha;have lb := h.lt b hb;rw [List.getD_eq_getElem?_getD, List.getD_eq_getElem?_getD, lgg la, lgg lb] at e;simp only [Option.getD_some] at e;have h1 : ((kyK L).map (·.1))[a]'(by simpa using la) = ((kyK L).map (·.1))[b]'(by simpa using lb) := by simpa using e
  have pw := List.pairwise_iff_getElem.1 k1;rcases Nat.lt_trichotomy a b with h2 | h2 | h2
  ·exact pw a b (by simpa using la) (by simpa using lb) h2 h1
  ·exact hab h2
  ·exact pw b a (by simpa using lb) (by simpa using la) h2 h1.symm
 ·rw [← k2 x];constructor
  ·intro hx;unfold ouK at hx;obtain ⟨i, hi, rfl⟩ := List.mem_map.1 hx;have hl := h.lt i hi;rw [List.getD_eq_getElem?_getD, lgg hl];exact List.mem_map.2 ⟨_, List.getElem_mem hl, rfl⟩
  ·intro hx;obtain ⟨p, hp, rfl⟩ := List.mem_map.1 hx;obtain ⟨i, hi⟩ := List.mem_iff_getElem?.1 hp;have hil := (List.getElem?_eq_some_iff.1 hi).1;unfold ouK;refine List.mem_map.2 ⟨i, by simpa using hs i hil, ?_⟩;rw [List.getD_eq_getElem?_getD, hi]; rfl
end
end Go.Rse
