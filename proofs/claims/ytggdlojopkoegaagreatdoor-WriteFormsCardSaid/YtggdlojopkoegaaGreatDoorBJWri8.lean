/-
  Walks: the reference's beats and forms (tactusref23: beat, Check, uses, Forms, Count, durations).
-/
import Derived.Test.YtggdlojopkoegaaGreatDoorBJLev8
import Derived.Test.YtggdlojopkoegaaGreatDoorBJRef22c
import Derived.Test.YtggdlojopkoegaaGreatDoorBJLaw23a
set_option linter.unusedSimpArgs false
set_option linter.unusedVariables false
namespace Go.Rse
open Go Go.Proofs
theorem zsN {m : Mn} {l : List Bt} {k : Nat} {b : Bt} (h0 : ckM m = 0) (hb : l[k]? = some b) (h2 : btF (l.take k) = 0) (h : ¬ btC b = 0) : wcE m l = btC b := by
 have e := zgm hb h2;unfold wcE; rw [if_pos h0, zgn (i := k + 1) (by rw [e]; exact h), e]
theorem zsO {l : List Bt} {k : Nat} {b : Bt} (hb : l[k]? = some b) (h2 : btF (l.take k) = 0) (h : btC b = 0) : btF (l.take (k + 1)) = 0 := by
 rw [zgm hb h2, h]
def pvQ (b : Bt) (h : Hb) (v : Int) (c : Bool) (s : Sp) : Bool := decide (s.Value = v) && decide (s.Color = c) && urQ b h s
def smQ (b : Bt) (h : Hb) (v : Int) (c : Bool) (L : List Sp) : Bool := L.any (pvQ b h v c)
def plQ (b : Bt) (h : Hb) (v : Int) (c : Bool) (L : List Sp) : Bool := L.any fun s => pvQ b h v c s && !s.Dot
theorem zsP {b : Bt} {h : Hb} {v : Int} {c : Bool} {L : List Sp} {k : Nat} {s : Sp} (hs : L[k]? = some s) : smQ b h v c (L.take (k + 1)) = (smQ b h v c (L.take k) || pvQ b h v c s) := by
 unfold smQ; rw [List.take_add_one, hs]; simp
theorem zsQ {b : Bt} {h : Hb} {v : Int} {c : Bool} {L : List Sp} {k : Nat} {s : Sp} (hs : L[k]? = some s) : plQ b h v c (L.take (k + 1)) = (plQ b h v c (L.take k) || (pvQ b h v c s && !s.Dot)) := by
 unfold plQ; rw [List.take_add_one, hs]; simp
theorem zj2 {α : Type} {p q : α -> Bool} : ∀ {L : List α}, (∀ x ∈ L, p x = q x) -> L.any p = L.any q
 | [], _ => rfl
 | x :: r, h => by rw [List.any_cons, List.any_cons, h x (by simp), zj2 fun y hy => h y (List.mem_cons_of_mem _ hy)]
theorem zm3 {m : Mn} {b : Bt} {h : Hb} {v : Int} {c : Bool} : rkC b h (allE m b.Dur) v c = (if plQ b h v c (allE m b.Dur) then [⟨v, c, false⟩] else []) ++ (if smQ b h v c (allE m b.Dur) && h.Dots then [⟨v, c, true⟩] else []) := by
 unfold rkC plQ smQ
 have e1 : ((allE m b.Dur).any fun s => slQ b h s && decide (s.Value = v) && decide (s.Color = c) && !s.Dot) = (allE m b.Dur).any fun s => pvQ b h v c s && !s.Dot := zj2 fun s hs => by
  unfold pvQ; rw [zpU hs];cases slQ b h s <;> simp
 have e2 : ((allE m b.Dur).any fun s => slQ b h s && decide (s.Value = v) && decide (s.Color = c)) = (allE m b.Dur).any (pvQ b h v c) := zj2 fun s hs => by
  unfold pvQ; rw [zpU hs];cases slQ b h s <;> simp
 rw [e1, e2]
def rkW (b : Bt) (h : Hb) (L : List Sp) (v : Int) : Nat -> List Fo
 | 0 => []
 | 1 => rkC b h L v false
 | _ => rkV b h L v
def cI (n : Nat) : Bool := decide ((n : Int) = 1)
theorem zpY {b : Bt} {h : Hb} {L : List Sp} {v : Int} {n : Nat} (hn : n < 2) : rkW b h L v n ++ rkC b h L v (cI n) = rkW b h L v (n + 1) := by
 rcases n with _ | _ | n
 ·rfl
 ·rfl
 ·omega
def rjL (m : Mn) (b : Bt) (h : Hb) (j n : Nat) : List (List Sg) := (rkL b h (allE m b.Dur) j ++ rkW b h (allE m b.Dur) (1 + (j : Int)) n).map (foS b.Rest)
theorem zsR (m : Mn) (b : Bt) (h : Hb) : [] = rjL m b h 0 0 := rfl
theorem zsS (m : Mn) (b : Bt) (h : Hb) (j : Nat) : rjL m b h j 2 = rjL m b h (j + 1) 0 := by
 unfold rjL;rw [show rkW b h (allE m b.Dur) (1 + (j : Int)) 2 = rkV b h (allE m b.Dur) (1 + (j : Int)) from rfl, show rkW b h (allE m b.Dur) (1 + ((j + 1 : Nat) : Int)) 0 = [] from rfl, List.append_nil];rfl
theorem zsT (m : Mn) (b : Bt) (h : Hb) : rjL m b h 8 0 = frV m b h := by
 unfold rjL frV frL;rw [show rkW b h (allE m b.Dur) (1 + ((8 : Nat) : Int)) 0 = [] from rfl, List.append_nil]
theorem zoA (b : Bt) (h : Hb) (L : List Sp) (n : Nat) : (rkL b h L n).length <= 4 * n := by
 induction n with
 | zero => simp [rkL]
 | succ n ih =>
  have hC : ∀ c, (rkC b h L (1 + (n : Int)) c).length <= 2 := fun c => by
   unfold rkC; rw [List.length_append];split <;> split <;> simp
  have h1 := hC false;have h2 := hC true;unfold rkL rkV;simp only [List.length_append]; omega
theorem zkX (m : Mn) (b : Bt) (h : Hb) (j n : Nat) (hj : j <= 8) : (rjL m b h j n).length <= 100 := by
 unfold rjL;rw [List.length_map, List.length_append];have h1 := zoA b h (allE m b.Dur) j
 have hC : ∀ c, (rkC b h (allE m b.Dur) (1 + (j : Int)) c).length <= 2 := fun c => by
  unfold rkC; rw [List.length_append];split <;> split <;> simp
 have h2 := hC false;have h3 := hC true
 have h4 : (rkW b h (allE m b.Dur) (1 + (j : Int)) n).length <= 4 := by
  rcases n with _ | _ | n
  ·simp [rkW]
  ·show (rkC b h (allE m b.Dur) (1 + (j : Int)) false).length <= 4; omega
  ·show (rkV b h (allE m b.Dur) (1 + (j : Int))).length <= 4;unfold rkV; rw [List.length_append]; omega
 omega
def foB (r : Bool) (v : Int) (c : Bool) : Sg := if r then ⟨2, v, 0, 0, false, 0, false, false, ⟨0, 0, 0, 0⟩, false, 0, 0, 0, 0⟩ else ⟨1, v, 4, 0, c, 0, false, false, ⟨0, 0, 0, 0⟩, false, 0, 0, 0, 0⟩
abbrev doS : Sg := ⟨3, 0, 0, 0, false, 0, false, false, ⟨0, 0, 0, 0⟩, false, 0, 0, 0, 0⟩
theorem zpZ (r : Bool) (v : Int) (c : Bool) : foS r ⟨v, c, false⟩ = [foB r v c] := by unfold foS foB; cases r <;> rfl
theorem zsU (r : Bool) (v : Int) (c : Bool) : foS r ⟨v, c, true⟩ = [foB r v c, doS] := by unfold foS foB; cases r <;> rfl
def rjP (m : Mn) (b : Bt) (h : Hb) (j n : Nat) : List (List Sg) := rjL m b h j n ++ (if plQ b h (1 + (j : Int)) (cI n) (allE m b.Dur) then [[foB b.Rest (1 + (j : Int)) (cI n)]] else [])
theorem zoB (m : Mn) (b : Bt) (h : Hb) (j n : Nat) (hj : j <= 8) : (rjP m b h j n).length <= 101 := by
 have := zkX m b h j n hj;unfold rjP; rw [List.length_append]; split <;> simp <;> omega
theorem zsV {m : Mn} {b : Bt} {h : Hb} {j n : Nat} (hp : plQ b h (1 + (j : Int)) (cI n) (allE m b.Dur) = true) : rjL m b h j n ++ [[foB b.Rest (1 + (j : Int)) (cI n)]] = rjP m b h j n := by unfold rjP; rw [if_pos hp]
theorem zsW {m : Mn} {b : Bt} {h : Hb} {j n : Nat} (hp : plQ b h (1 + (j : Int)) (cI n) (allE m b.Dur) = false) : rjL m b h j n = rjP m b h j n := by unfold rjP; rw [hp]; simp
theorem zsX {m : Mn} {b : Bt} {h : Hb} {j n : Nat} (hn : n < 2) (hp : smQ b h (1 + (j : Int)) (cI n) (allE m b.Dur) = true) (hd : h.Dots = true) : rjP m b h j n ++ [[foB b.Rest (1 + (j : Int)) (cI n), doS]] = rjL m b h j (n + 1) := by
 unfold rjP rjL;rw [← zpY hn, zm3, hp, hd];cases plQ b h (1 + (j : Int)) (cI n) (allE m b.Dur) <;> simp [zpZ, zsU]
theorem zsY {m : Mn} {b : Bt} {h : Hb} {j n : Nat} (hn : n < 2) (hp : ¬ (smQ b h (1 + (j : Int)) (cI n) (allE m b.Dur) = true /\ h.Dots = true)) : rjP m b h j n = rjL m b h j (n + 1) := by
 have hx : (smQ b h (1 + (j : Int)) (cI n) (allE m b.Dur) && h.Dots) = false := by
  cases h1 : smQ b h (1 + (j : Int)) (cI n) (allE m b.Dur) <;> cases h2 : h.Dots <;> simp [h1, h2] at hp ⊢
 unfold rjP rjL;rw [← zpY hn, zm3, hx];cases plQ b h (1 + (j : Int)) (cI n) (allE m b.Dur) <;> simp [zpZ]
attribute [local irreducible] Pur yD yF Ex X Fn Imp LeV LeB FnO It yH FnW FnOW FnP FnD
attribute [local irreducible] wcE btF btC ckT ckM allE bthE urQ pvQ smQ plQ rjL rjP frV wcnE wcnV fmV
theorem zec (b : Bt) : Fn Tryz.prog 95 [btA b] (iv (btC b)) := by
 refine Fn.go Tryz.func95 Tryz.ntmps95 (fun g w d => ?_);apply yb;refine yA ?_;refine ya ?_;apply yk;iterate 2 refine ya ?_
 refine ym (zX b.Dur) ?_;refine yd ?_;apply ye;apply yb;refine yg ?_;refine yj rfl ?_ ?_<;>intro hc1
 ·have hV : btC b = ckT b.Dur := by unfold btC; rw [if_neg hc1]
  apply yb;refine yg ?_;refine X.ret ?_;refine yh ?_;all_goals (rw [hV])
 have h0 : ckT b.Dur = 0 := by omega
 apply yf;apply ye;apply yb;refine zx ?_;refine yj rfl ?_ ?_<;>intro hc2
 ·have hV : btC b = 2 := by unfold btC; rw [if_pos h0, if_pos hc2]
  apply yb;refine yd ?_;refine X.ret ?_;refine yh ?_;all_goals (rw [hV])
 have hV : btC b = 0 := by unfold btC; rw [if_pos h0, if_neg hc2]
 apply yf;apply yb;refine yd ?_;refine X.ret ?_;refine yh ?_;all_goals (rw [hV])
theorem zbn (m : Mn) (l : List Bt) (hl : l.length <= 4000000000) : Fn Tryz.prog 26 [mnA m, btsA l] (iv (wcE m l)) := by
 refine Fn.go Tryz.func26 Tryz.ntmps26 (fun g w d => ?_);apply yb;refine yA ?_;refine ya ?_;apply yk;refine ya ?_;refine ym (zC m) ?_;refine yd ?_;apply ye;apply yb;refine yg ?_;refine yj rfl ?_ ?_<;>intro hc1
 ·have hV := zq3 (l := l) hc1;apply yb;refine yg ?_;refine X.ret ?_;refine yh ?_;all_goals (rw [hV])
 have h0 : ckM m = 0 := by omega
 have h0s : iv (ckM m) = iv 0 := by rw [h0]
 apply yf;apply ye;apply yb;refine yd ?_;apply X.block
 refine zb (ι := Nat) (fun (k : Nat) => [(1, btsA l), (5, iv 0), (6, iv (k : Int))]) (fun (k : Nat) => []) (fun (k : Nat) => k <= l.length /\ btF (l.take k) = 0) (fun (k : Nat) => l.length - k) 0 (fun k hk => ?_) (hJ := by
  exact ⟨by omega, by unfold btF; rfl⟩) (h0 := by
  exact yp)
 obtain ⟨hk1, hk2⟩ := hk;apply ye;apply yb;refine zx ?_;refine yj rfl ?_ ?_<;>intro hc2
 ·obtain ⟨b, hb⟩ : ∃ b, l[k]? = some b := ⟨_, lgg (by omega)⟩;have hb2 : l[(k : Int).toNat]? = some b := by simpa using hb
  apply yf;apply ye;apply X.block;apply yb;iterate 4 refine ya ?_
  refine ym (zec b) ?_;refine ya ?_;apply yk;refine yg ?_;refine yj rfl ?_ ?_<;>intro hc3
  ·have hV := zsN h0 hb hk2 hc3;apply yb;refine yg ?_;refine X.ret ?_;refine yh ?_;all_goals (rw [hV])
  have h3 : btC b = 0 := by omega
  have hst := zsO hb hk2 h3;apply yf;apply yc;refine yo ?_
  refine yJ (k + 1) (hJ := by
   exact ⟨by omega, hst⟩) (hI := yp)
 ·obtain rfl : k = l.length := by omega
  have hV := zsA h0 hk2;apply X.exit;apply yb;refine yd ?_;refine X.ret ?_;refine yh ?_;all_goals (rw [hV])
theorem zed (s : Sp) (b : Bt) (h : Hb) : Fn Tryz.prog 98 [spA s, btA b, hbA h] (.bool (urQ b h s)) := by
 refine Fn.go Tryz.func98 Tryz.ntmps98 (fun g w d => ?_);apply yb;iterate 3 refine yA ?_
 refine ya ?_;apply yk;iterate 5 refine ya ?_
 refine ExF.at 5 ?_;refine yG ?_;iterate 7 refine ExF.gi ?_
 iterate 2 refine yG ?_
 iterate 7 refine ExF.gi ?_
 iterate 2 refine yG ?_
 iterate 7 refine ExF.gi ?_
 refine yE ?_;refine yg ?_;refine X.ret ?_;refine yh ?_;all_goals (first | (unfold urQ; simp; done) | (unfold urQ; rfl))
set_option maxHeartbeats 4000000 in
theorem zdQ (m : Mn) (b : Bt) (h : Hb) : Fn Tryz.prog 29 [mnA m, btA b, hbA h] (.tup [zcO (fmV m b h), iv (wcE m [b])]) := by
 have hal := zkV m b.Dur;have hr0 := zsR m b h;have hr8 := zsT m b h;refine Fn.go Tryz.func29 Tryz.ntmps29 (fun g w d => ?_);apply yb;iterate 3 refine yA ?_
 iterate 2 refine ya ?_
 apply yk;iterate 2 refine ya ?_
 refine Ex.stepA (yT (enc := btE) (l := [b]) sl24 ty42 ze42 (by decide) rfl rfl rfl rfl (by decide) (by decide) (fun _ => rfl) rfl) rfl rfl ?_;refine ym (zbn m [b] (by simp)) ?_;refine yd ?_;apply ye;apply yb;refine yg ?_;refine yj rfl ?_ ?_<;>intro hc1
 ·have hV : fmV m b h = [] := by unfold fmV; rw [if_neg hc1]
  apply yb;refine yo ?_;refine X.ret ?_;refine RetQ.imp (yn (ts := [(6, zcO []), (7, iv (wcE m [b]))]) (hs := [])) ?_;refine yw ?_ ?_;all_goals (first | (rw [hV]; done) | rfl | (rw [h0]; rfl) | (rw [hr8, hV]; rfl))
 have h0 : wcE m [b] = 0 := by omega
 have hV : fmV m b h = frV m b h := by unfold fmV; rw [if_pos h0]
 apply yf;apply yb;iterate 3 refine ya ?_
 refine ym (zey m b.Dur) ?_;iterate 5 refine ya ?_
 apply yk;refine yd ?_;iterate 2 apply ye
 refine X.imp (yZ sgsE 44 1 11 30 rfl rfl) ?_;apply yc;refine yd ?_;apply X.block
 refine zb (ι := Nat) (fun (j : Nat) => [(4, .ptr 4 0 0 0), (5, .ptr 5 0 0 0), (9, spsA (allE m b.Dur)), (11, .own 30), (12, iv (1 + (j : Int)))]) (fun (j : Nat) => [(4, .box (btE b) 42), (5, .box (hbE h) 32), (30, .row sgsE (rjL m b h j 0) 44 1)]) (fun (j : Nat) => j <= 8) (fun (j : Nat) => 8 - j) 0 (fun j hk => ?_) (h0 := by
  exact yp)
 apply ye;apply yb;refine yg ?_;refine yj rfl ?_ ?_<;>intro hc2
 ·have hrl := zkX m b h j;apply yf;apply ye;apply X.block;apply yb;refine yd ?_;apply X.block
  refine zb (ι := Nat) (fun (n : Nat) => [(4, .ptr 4 0 0 0), (5, .ptr 5 0 0 0), (9, spsA (allE m b.Dur)), (11, .own 30), (12, iv (1 + (j : Int))), (13, iv (n : Int))]) (fun (n : Nat) => [(4, .box (btE b) 42), (5, .box (hbE h) 32), (30, .row sgsE (rjL m b h j n) 44 1)]) (fun (n : Nat) => n <= 2) (fun (n : Nat) => 2 - n) 0 (fun n hk => ?_) (h0 := by
   exact yp)
  apply ye;apply yb;refine yg ?_;refine yj rfl ?_ ?_<;>intro hc3
  ·have hs0 : false = smQ b h (1 + (j : Int)) (cI n) ((allE m b.Dur).take 0) := by unfold smQ; rfl
   have hp0 : false = plQ b h (1 + (j : Int)) (cI n) ((allE m b.Dur).take 0) := by unfold plQ; rfl
   apply yf;apply ye;apply X.block;apply yb;refine yg ?_;apply ye;apply yb;refine yd ?_;apply X.block
   refine zb (ι := Nat) (fun (i : Nat) => [(4, .ptr 4 0 0 0), (5, .ptr 5 0 0 0), (9, spsA (allE m b.Dur)), (11, .own 30), (12, iv (1 + (j : Int))), (13, iv (n : Int)), (14, .bool (smQ b h (1 + (j : Int)) (cI n) ((allE m b.Dur).take i))), (15, .bool (plQ b h (1 + (j : Int)) (cI n) ((allE m b.Dur).take i))), (16, iv (i : Int))]) (fun (i : Nat) => [(4, .box (btE b) 42), (5, .box (hbE h) 32), (30, .row sgsE (rjL m b h j n) 44 1)]) (fun (i : Nat) => i <= (allE m b.Dur).length) (fun (i : Nat) => (allE m b.Dur).length - i) 0 (fun i hk => ?_) (h0 := by
    exact yp)
   apply ye;apply yb;refine zx ?_;refine yj rfl ?_ ?_<;>intro hc4
   ·obtain ⟨s, hs⟩ : ∃ s, (allE m b.Dur)[i]? = some s := ⟨_, lgg (by omega)⟩;have hs2 : (allE m b.Dur)[(i : Int).toNat]? = some s := by simpa using hs
    have hsm := zsP (b := b) (h := h) (v := (1 + (j : Int))) (c := cI n) hs;have hpl := zsQ (b := b) (h := h) (v := (1 + (j : Int))) (c := cI n) hs;apply yf;apply ye;apply X.block;apply ye;refine zo [46,47,48,49,50,51,52,53,54,55,56,57,58,59,60,61,62,63,64,65,66,67,68,69,70,71] [0,0,3,7,15,0,63,127,255,255,1023,2047,4095,255,8447,32767,65535,131071,262143,262143,1048575,2097151,262143,262143,16777215,33554431] mo ?_;(iterate 8 refine yi ?_);(iterate 8 refine ChM.gi ?_);(iterate 2 refine yi ?_);(iterate 6 refine ChM.gi ?_);refine ChM.cg (zed s b h) ?_;refine yi ?_;refine yR ?_;apply Ex.nil;refine yj rfl ?_ ?_<;>intro hc5
    ·have hp : pvQ b h (1 + (j : Int)) (cI n) s = true := by
      obtain ⟨⟨p1, p2⟩, p3⟩ := hc5;unfold pvQ cI; rw [p3]; simp only [beq_iff_eq] at p2; simp [p1, p2]
     rw [hp] at hsm hpl;simp only [Bool.or_true, Bool.true_and] at hsm hpl;have hsm2 := hsm.symm;have hpl2 := hpl.symm;apply yb;refine yd ?_;apply yc;refine ya ?_;refine ExF.at 1 ?_;refine yG ?_;(iterate 6 refine ExF.gi ?_);refine yE ?_;refine yg ?_;apply yc;refine yo ?_;refine yJ (i + 1) (hI := yp)
    ·have hp : pvQ b h (1 + (j : Int)) (cI n) s = false := by
      unfold pvQ cI;rcases hc5 with (p | p) | p
      ·simp [p]
      ·have p2 : ¬ s.Color = decide ((n : Int) = 1) := by simpa using p
       rw [decide_eq_false p2]; simp
      ·rw [p]; simp
     rw [hp] at hsm hpl;simp only [Bool.or_false, Bool.false_and] at hsm hpl;have hsm2 := hsm.symm;have hpl2 := hpl.symm;apply yf;apply yc;refine yo ?_;refine yJ (i + 1) (hI := yp)
   ·obtain rfl : i = (allE m b.Dur).length := by omega
    have hsf : smQ b h (1 + (j : Int)) (cI n) ((allE m b.Dur).take (allE m b.Dur).length) = smQ b h (1 + (j : Int)) (cI n) (allE m b.Dur) := by rw [List.take_length]
    have hpf : plQ b h (1 + (j : Int)) (cI n) ((allE m b.Dur).take (allE m b.Dur).length) = plQ b h (1 + (j : Int)) (cI n) (allE m b.Dur) := by rw [List.take_length]
    apply X.exit;apply yb;(iterate 4 refine ya ?_);refine yC ?_;refine Ex.mo ?_;apply Ex.nil;refine zdv ⟨[(4, .ptr 4 0 0 0), (5, .ptr 5 0 0 0), (9, spsA (allE m b.Dur)), (11, .own 30), (12, iv (1 + (j : Int))), (13, iv (n : Int)), (14, .bool (smQ b h (1 + (j : Int)) (cI n) (allE m b.Dur))), (15, .bool (plQ b h (1 + (j : Int)) (cI n) (allE m b.Dur))), (17, .ptr 17 0 0 0)], [(4, .box (btE b) 42), (5, .box (hbE h) 32), (30, .row sgsE (rjL m b h j n) 44 1), (17, .box (sgE (foB b.Rest (1 + (j : Int)) (cI n))) 76)]⟩ (fun hJ22 => ?_) ?_
    ·apply yb;refine yg ?_;refine yj rfl ?_ ?_<;>intro hc6
     ·have hB6 : sgE ⟨2, (1 + (j : Int)), 0, 0, false, 0, false, false, ⟨0, 0, 0, 0⟩, false, 0, 0, 0, 0⟩ = sgE (foB b.Rest (1 + (j : Int)) (cI n)) := by unfold foB; rw [if_pos hc6]
      apply yc;(iterate 2 refine ya ?_);refine Ex.mo ?_;apply Ex.nil;exact X.imp yp hJ22
     ·have hB6 : sgE ⟨1, (1 + (j : Int)), 4, 0, decide ((n : Int) = 1), 0, false, false, ⟨0, 0, 0, 0⟩, false, 0, 0, 0, 0⟩ = sgE (foB b.Rest (1 + (j : Int)) (cI n)) := by unfold foB cI; rw [if_neg (by simp [hc6])]
      apply yf;exact X.imp yp hJ22
    refine zdv ⟨[(4, .ptr 4 0 0 0), (5, .ptr 5 0 0 0), (9, spsA (allE m b.Dur)), (11, .own 30), (12, iv (1 + (j : Int))), (13, iv (n : Int)), (14, .bool (smQ b h (1 + (j : Int)) (cI n) (allE m b.Dur))), (17, .ptr 17 0 0 0)], [(4, .box (btE b) 42), (5, .box (hbE h) 32), (30, .row sgsE (rjP m b h j n) 44 1), (17, .box (sgE (foB b.Rest (1 + (j : Int)) (cI n))) 76)]⟩ (fun hJ24 => ?_) ?_
    ·apply yb;refine yd ?_;refine yj rfl ?_ ?_<;>intro hc7
     ·have hst7 := zsV hc7;have hl7 := hrl n (by omega);apply yc;(iterate 2 refine ya ?_);refine Ex.stepA (yT (enc := sgE) (l := [foB b.Rest (1 + (j : Int)) (cI n)]) sl44 ty76 ze76 (by decide) rfl rfl rfl rfl (by decide) (by decide) (fun _ => rfl) rfl) rfl rfl ?_;refine Ex.stepA (yT (enc := sgsE) (l := [[foB b.Rest (1 + (j : Int)) (cI n)]]) sl36 ty44 ze44 (by decide) rfl rfl rfl rfl (by decide) (by decide) (fun _ => rfl) rfl) rfl rfl ?_;refine Ex.mo ?_;refine yd ?_;exact X.imp yp hJ24
     ·have hst7 := zsW (m := m) (by simpa using hc7);apply yf;exact X.imp yp hJ24
    apply yb;refine ya ?_;refine ExF.at 1 ?_;refine yG ?_;(iterate 2 refine ExF.gi ?_);refine yE ?_;refine yd ?_;refine yj rfl ?_ ?_<;>intro hc8
    ·have hl8 := zoB m b h j n (by omega);have hst8 := zsX (by omega) hc8.1 hc8.2;apply yc;(iterate 3 refine ya ?_);refine Ex.stepA (yT (enc := sgE) (l := [foB b.Rest (1 + (j : Int)) (cI n), doS]) sl44 ty76 ze76 (by decide) rfl rfl rfl rfl (by decide) (by decide) (fun _ => rfl) rfl) rfl rfl ?_;refine Ex.stepA (yT (enc := sgsE) (l := [[foB b.Rest (1 + (j : Int)) (cI n), doS]]) sl36 ty44 ze44 (by decide) rfl rfl rfl rfl (by decide) (by decide) (fun _ => rfl) rfl) rfl rfl ?_;refine Ex.mo ?_;refine yd ?_;apply yc;refine yo ?_;refine yJ (n + 1) (hI := yp)
    ·have hst8 := zsY (m := m) (b := b) (h := h) (j := j) (n := n) (by omega) (by rcases hc8 with e | e <;> simp [e]);apply yf;apply yc;refine yo ?_;refine yJ (n + 1) (hI := yp)
  ·obtain rfl : n = 2 := by omega
   have hjj := zsS m b h j;apply X.exit;apply yc;refine yo ?_;refine yJ (j + 1) (hI := yp)
 ·obtain rfl : j = 8 := by omega
  apply X.exit;apply yb;refine yo ?_;refine X.ret ?_;refine RetQ.imp (Imp.freeze (k := 30) rfl) ?_;refine yw ?_ ?_;all_goals (first | (rw [hV]; done) | rfl | (rw [h0]; rfl) | (rw [hr8, hV]; rfl))
end Go.Rse
namespace Go.Rse
open Go Go.Proofs
attribute [local irreducible] Pur yD yF Ex X Fn Imp LeV LeB FnO It yH FnW FnOW FnP FnD
attribute [local irreducible] wcE frV fmV wcnE wcnV durB
end Go.Rse
namespace Go.Rse
open Go Go.Proofs
theorem zoC (m : Mn) (b : Bt) (h : Hb) : (fmV m b h).length <= 32 := by
 unfold fmV; split
 ·exact zfV m b h
 ·simp
theorem zm4 {m : Mn} {b : Bt} {h : Hb} {f : List Sg} (hf : f ∈ fmV m b h) : f.length <= 2 := by
 unfold fmV at hf; split at hf
 ·exact (zi4 hf).2
 ·simp at hf
attribute [local irreducible] Pur yD yF Ex X Fn Imp LeV LeB FnO It yH FnW FnOW FnP FnD
attribute [local irreducible] wcE frV fmV
set_option maxHeartbeats 4000000 in
theorem C_tactuslaw23_WriteForms (m : Mn) (l : List Bt) (h : Hb) : Fn Tryz.prog 4 [mnA m, btsA l, hbA h] (.bool true) := by
 refine Fn.go Tryz.func4 Tryz.ntmps4 (fun g w d => ?_);apply yb;iterate 2 refine yA ?_
 refine yd ?_;apply ye;apply yb;refine yo ?_;refine yj rfl ?_ ?_<;>intro hc1
 ·apply yb;refine ym zbm ?_;refine yd ?_;refine X.ret ?_;refine yh ?_;all_goals (first | rfl | simp)
 have hl40 : l.length <= 40 := by omega
 apply yf;apply yb;refine ya ?_;refine ym (zer l (by omega)) ?_;refine yd ?_;iterate 2 apply ye
 refine zo [20,21,22,23,24,25,26,27,28,29,30,31,32] [0,0,3,0,0,31,63,127,255,255,1023,2047,4095] mo ?_;iterate 2 refine yi ?_
 refine y8 (zaz m l (by omega)) ?_;iterate 2 refine yi ?_
 refine y8 (zbn m l (by omega)) ?_;iterate 2 refine yi ?_
 iterate 2 refine ChM.gi ?_
 refine ChM.cg (zbA l l (by omega)) ?_;refine ChM.gi ?_;refine yi ?_;refine yR ?_;apply Ex.nil;refine yj rfl ?_ ?_<;>intro hc2
 ·simp at hc2
 apply yf;apply ye;apply yb;refine yd ?_;apply X.block
 refine zb (ι := Nat) (fun (i : Nat) => [(1, btsA l), (3, .ptr 3 0 0 0), (5, .ptr 5 0 0 0), (8, iv (i : Int))]) (fun (i : Nat) => [(3, .box (mnE m) 23), (5, .box (hbE h) 32)]) (fun (i : Nat) => i <= l.length) (fun (i : Nat) => l.length - i) 0 (fun i hk => ?_) (h0 := by
  exact yp)
 apply ye;apply yb;refine zx ?_;refine yj rfl ?_ ?_<;>intro hc3
 ·obtain ⟨b, hb⟩ : ∃ b, l[i]? = some b := ⟨_, lgg (by omega)⟩;have hb2 : l[(i : Int).toNat]? = some b := by simpa using hb
  have hfl := zoC m b h;apply yf;apply ye;apply X.block;apply ye;refine zo [9,10,39,40,41,42,43,44,45,46,47,48] [0,0,0,6,14,0,63,127,255,255,511,2047] mo ?_;iterate 6 refine yi ?_
  refine y8 (zdT m b h) ?_;iterate 5 refine yi ?_
  refine yR ?_;apply Ex.nil;apply ye;refine zo [11,12,49,50,51,52,53,54,55,56,57,58] [0,0,0,6,14,0,63,127,255,255,511,2047] mo ?_;iterate 6 refine yi ?_
  refine y8 (zdQ m b h) ?_;iterate 5 refine yi ?_
  refine yR ?_;apply Ex.nil;apply ye;apply yb;iterate 5 refine ya ?_
  refine ExF.at 5 ?_;refine yG ?_;iterate 3 refine ExF.gi ?_
  refine yE ?_;refine yd ?_;refine yj rfl ?_ ?_<;>intro hc4
  ·simp at hc4
  apply yf;apply yb;refine yd ?_;apply X.block
  refine zb (ι := Nat) (fun (k : Nat) => [(1, btsA l), (3, .ptr 3 0 0 0), (5, .ptr 5 0 0 0), (8, iv (i : Int)), (9, zcO (fmV m b h)), (11, zcO (fmV m b h)), (13, iv (k : Int))]) (fun (k : Nat) => [(3, .box (mnE m) 23), (5, .box (hbE h) 32)]) (fun (k : Nat) => k <= (fmV m b h).length) (fun (k : Nat) => (fmV m b h).length - k) 0 (fun k hk => ?_) (h0 := by
   exact yp)
  apply ye;apply yb;refine zx ?_;refine yj rfl ?_ ?_<;>intro hc5
  ·obtain ⟨f, hf⟩ : ∃ f, (fmV m b h)[k]? = some f := ⟨_, lgg (by omega)⟩;have hf2 : (fmV m b h)[(k : Int).toNat]? = some f := by simpa using hf
   have hff := zm4 (List.mem_of_getElem? hf);apply yf;apply ye;apply X.block;apply ye;refine zo [75,76,77,78,79,80,81,82,83,84] [0,0,3,7,0,0,48,112,255,511] mo ?_;(iterate 8 refine yi ?_);refine y8 (zaa f f (by omega)) ?_;refine yi ?_;refine yR ?_;apply Ex.nil;refine yj rfl ?_ ?_<;>intro hc6
   ·simp at hc6
   apply yf;apply yc;refine yo ?_;refine yJ (k + 1) (hI := yp)
  ·obtain rfl : k = (fmV m b h).length := by omega
   apply X.exit;apply yc;refine yo ?_;refine yJ (i + 1) (hI := yp)
 ·apply X.exit;apply yb;refine ym zbm ?_;refine yd ?_;refine X.ret ?_;refine yh ?_;all_goals (first | rfl | simp)
end Go.Rse
