/-
  Walks.
-/
import Derived.Test.YtkpbljifckjeoaaGreatDoorYJRef22c
set_option linter.unusedSimpArgs false
set_option linter.unusedVariables false
namespace Go.Rse
open Go Go.Proofs
section
theorem zu4 {m : Mn} {l : List Bt} {k : Nat} {b : Bt} (h0 : ckM m = 0) (hb : l[k]? = some b) (h2 : btF (l.take k) = 0) (h : ¬ btC b = 0) : wcE m l = btC b := by
 have e := zhf hb h2;unfold wcE; rw [if_pos h0, zhg (i := k + 1) (by rw [e]; exact h), e]
theorem zu5 {l : List Bt} {k : Nat} {b : Bt} (hb : l[k]? = some b) (h2 : btF (l.take k) = 0) (h : btC b = 0) : btF (l.take (k + 1)) = 0 := by
 rw [zhf hb h2, h]
def pvQ (b : Bt) (h : Hb) (v : Int) (c : Bool) (s : Sp) : Bool := decide (s.Value = v) && decide (s.Color = c) && urQ b h s
def smQ (b : Bt) (h : Hb) (v : Int) (c : Bool) (L : List Sp) : Bool := L.any (pvQ b h v c)
def plQ (b : Bt) (h : Hb) (v : Int) (c : Bool) (L : List Sp) : Bool := L.any fun s => pvQ b h v c s && !s.Dot
theorem zu6 {b : Bt} {h : Hb} {v : Int} {c : Bool} {L : List Sp} {k : Nat} {s : Sp} (hs : L[k]? = some s) : smQ b h v c (L.take (k + 1)) = (smQ b h v c (L.take k) || pvQ b h v c s) := by
 unfold smQ; rw [List.take_add_one, hs]; simp
theorem zu7 {b : Bt} {h : Hb} {v : Int} {c : Bool} {L : List Sp} {k : Nat} {s : Sp} (hs : L[k]? = some s) : plQ b h v c (L.take (k + 1)) = (plQ b h v c (L.take k) || (pvQ b h v c s && !s.Dot)) := by
 unfold plQ; rw [List.take_add_one, hs]; simp
theorem zk0 {α : Type} {p q : α -> Bool} : ∀ {L : List α}, (∀ x ∈ L, p x = q x) -> L.any p = L.any q
 | [], _ => rfl
 | x :: r, h => by rw [List.any_cons, List.any_cons, h x (by simp), zk0 fun y hy => h y (List.mem_cons_of_mem _ hy)]
theorem zop {m : Mn} {b : Bt} {h : Hb} {v : Int} {c : Bool} : rkC b h (allE m b.Dur) v c = (if plQ b h v c (allE m b.Dur) then [⟨v, c, false⟩] else []) ++ (if smQ b h v c (allE m b.Dur) && h.Dots then [⟨v, c, true⟩] else []) := by
 unfold rkC plQ smQ
 have e1 : ((allE m b.Dur).any fun s => slQ b h s && decide (s.Value = v) && decide (s.Color = c) && !s.Dot) = (allE m b.Dur).any fun s => pvQ b h v c s && !s.Dot := zk0 fun s hs => by
  unfold pvQ; rw [zrt hs];cases slQ b h s <;> simp
 have e2 : ((allE m b.Dur).any fun s => slQ b h s && decide (s.Value = v) && decide (s.Color = c)) = (allE m b.Dur).any (pvQ b h v c) := zk0 fun s hs => by
  unfold pvQ; rw [zrt hs];cases slQ b h s <;> simp
 rw [e1, e2]
def rkW (b : Bt) (h : Hb) (L : List Sp) (v : Int) : Nat -> List Fo
 | 0 => []
 | 1 => rkC b h L v false
 | _ => rkV b h L v
def cI (n : Nat) : Bool := decide ((n : Int) = 1)
theorem zrx {b : Bt} {h : Hb} {L : List Sp} {v : Int} {n : Nat} (hn : n < 2) : rkW b h L v n ++ rkC b h L v (cI n) = rkW b h L v (n + 1) := by
 rcases n with _ | _ | n
 ·rfl
 ·rfl
 ·omega
def rjL (m : Mn) (b : Bt) (h : Hb) (j n : Nat) : List (List Sg) := (rkL b h (allE m b.Dur) j ++ rkW b h (allE m b.Dur) (1 + (j : Int)) n).map (foS b.Rest)
theorem zu8 (m : Mn) (b : Bt) (h : Hb) : [] = rjL m b h 0 0 := rfl
theorem zu9 (m : Mn) (b : Bt) (h : Hb) (j : Nat) : rjL m b h j 2 = rjL m b h (j + 1) 0 := by
 unfold rjL;rw [show rkW b h (allE m b.Dur) (1 + (j : Int)) 2 = rkV b h (allE m b.Dur) (1 + (j : Int)) from rfl, show rkW b h (allE m b.Dur) (1 + ((j + 1 : Nat) : Int)) 0 = [] from rfl, List.append_nil];rfl
theorem zva (m : Mn) (b : Bt) (h : Hb) : rjL m b h 8 0 = frV m b h := by
 unfold rjL frV frL;rw [show rkW b h (allE m b.Dur) (1 + ((8 : Nat) : Int)) 0 = [] from rfl, List.append_nil]
theorem zp5 (b : Bt) (h : Hb) (L : List Sp) (n : Nat) : (rkL b h L n).length <= 4 * n := by
 induction n with
 | zero => simp [rkL]
 | succ n ih =>
  have hC : ∀ c, (rkC b h L (1 + (n : Int)) c).length <= 2 := fun c => by
   unfold rkC; rw [List.length_append];split <;> split <;> simp
  have h1 := hC false;have h2 := hC true;unfold rkL rkV;simp only [List.length_append]; omega
theorem zl5 (m : Mn) (b : Bt) (h : Hb) (j n : Nat) (hj : j <= 8) : (rjL m b h j n).length <= 100 := by
 unfold rjL;rw [List.length_map, List.length_append];have h1 := zp5 b h (allE m b.Dur) j
 have hC : ∀ c, (rkC b h (allE m b.Dur) (1 + (j : Int)) c).length <= 2 := fun c => by
  unfold rkC; rw [List.length_append];split <;> split <;> simp
 have h2 := hC false;have h3 := hC true
 have h4 : (rkW b h (allE m b.Dur) (1 + (j : Int)) n).length <= 4 := by
  rcases n with _ | _ | n
  ·simp [rkW]
  ·show (rkC b h (allE m b.Dur) (1 + (j : Int)) false).length <= 4; omega
  ·show (rkV b h (allE m b.Dur) (1 + (j : Int))).length <= 4;unfold rkV; rw [List.length_append]; omega
 omega
def foB (r : Bool) (v : Int) (c : Bool) : Sg := if r then ⟨2, v, 0, 0, false, 0, false, false, ⟨0, 0, 0, 0⟩, false, 0, 0, 0, 0⟩ else ⟨1, v, 4, 0, c, 0, false, false, ⟨0, 0, 0, 0⟩, false, 0, 0, 0, 0⟩
abbrev doS : Sg := ⟨3, 0, 0, 0, false, 0, false, false, ⟨0, 0, 0, 0⟩, false, 0, 0, 0, 0⟩
theorem zry (r : Bool) (v : Int) (c : Bool) : foS r ⟨v, c, false⟩ = [foB r v c] := by unfold foS foB; cases r <;> rfl
theorem zvb (r : Bool) (v : Int) (c : Bool) : foS r ⟨v, c, true⟩ = [foB r v c, doS] := by unfold foS foB; cases r <;> rfl
def rjP (m : Mn) (b : Bt) (h : Hb) (j n : Nat) : List (List Sg) := rjL m b h j n ++ (if plQ b h (1 + (j : Int)) (cI n) (allE m b.Dur) then [[foB b.Rest (1 + (j : Int)) (cI n)]] else [])
theorem zp6 (m : Mn) (b : Bt) (h : Hb) (j n : Nat) (hj : j <= 8) : (rjP m b h j n).length <= 101 := by
 have := zl5 m b h j n hj;unfold rjP; rw [List.length_append]; split <;> simp <;> omega
theorem zvc {m : Mn} {b : Bt} {h : Hb} {j n : Nat} (hp : plQ b h (1 + (j : Int)) (cI n) (allE m b.Dur) = true) : rjL m b h j n ++ [[foB b.Rest (1 + (j : Int)) (cI n)]] = rjP m b h j n := by unfold rjP; rw [if_pos hp]
theorem zvd {m : Mn} {b : Bt} {h : Hb} {j n : Nat} (hp : plQ b h (1 + (j : Int)) (cI n) (allE m b.Dur) = false) : rjL m b h j n = rjP m b h j n := by unfold rjP; rw [hp]; simp
theorem zve {m : Mn} {b : Bt} {h : Hb} {j n : Nat} (hn : n < 2) (hp : smQ b h (1 + (j : Int)) (cI n) (allE m b.Dur) = true) (hd : h.Dots = true) : rjP m b h j n ++ [[foB b.Rest (1 + (j : Int)) (cI n), doS]] = rjL m b h j (n + 1) := by
 unfold rjP rjL;rw [← zrx hn, zop, hp, hd];cases plQ b h (1 + (j : Int)) (cI n) (allE m b.Dur) <;> simp [zry, zvb]
theorem zvf {m : Mn} {b : Bt} {h : Hb} {j n : Nat} (hn : n < 2) (hp : ¬ (smQ b h (1 + (j : Int)) (cI n) (allE m b.Dur) = true /\ h.Dots = true)) : rjP m b h j n = rjL m b h j (n + 1) := by
 have hx : (smQ b h (1 + (j : Int)) (cI n) (allE m b.Dur) && h.Dots) = false := by
  cases h1 : smQ b h (1 + (j : Int)) (cI n) (allE m b.Dur) <;> cases h2 : h.Dots <;> simp [h1, h2] at hp ⊢
 unfold rjP rjL;rw [← zrx hn, zop, hx];cases plQ b h (1 + (j : Int)) (cI n) (allE m b.Dur) <;> simp [zry]
theorem zxT {m : Mn} {l : List Bt} {h : Hb} (c : wcE m l = 0) (c2 : ¬ 12 < l.length) (c3 : cqO m h l = true) : wcnE m l h = 0 /\ wcnV m l h = 0 := by
 have e := zlT c3;have q := zoc (h := h) c c2 (by rw [e]; omega);rw [e] at q; exact q
theorem zxU {m : Mn} {l : List Bt} {h : Hb} (c : wcE m l = 0) (c2 : ¬ 12 < l.length) (c3 : cqO m h l = false) (c4 : 4096 < cqN m h l) : wcnE m l h = 15 /\ wcnV m l h = 0 := by
 have q := (zru m h l 1 (Nat.le_refl _) c3).1;rw [Nat.one_mul] at q;exact zob c c2 (q.1 c4)
theorem zxV {m : Mn} {l : List Bt} {h : Hb} (c : wcE m l = 0) (c2 : ¬ 12 < l.length) (c3 : cqO m h l = false) (c4 : ¬ 4096 < cqN m h l) : wcnE m l h = 0 /\ wcnV m l h = (cqN m h l : Int) := by
 obtain ⟨q1, q2⟩ := zru m h l 1 (Nat.le_refl _) c3;rw [Nat.one_mul] at q1 q2;have c5 : ¬ 4096 < cnP m h l := fun e => c4 (q1.2 e)
 have e : cqN m h l = cnP m h l := q2 (by omega);rw [e]; exact zoc c c2 c5
theorem zvg {m : Mn} {h : Hb} {n : Nat} {b : Bt} (h1 : 0 < (frV m b h).length) (h2 : n <= 4096) : (n : Int) * ((frV m b h).length : Int) = ((cqS m h n b : Nat) : Int) := by
 unfold cqS; rw [if_pos ⟨h1, h2⟩]; simp
theorem zvh {m : Mn} {h : Hb} {n : Nat} {b : Bt} (h1 : ¬ (0 < (frV m b h).length /\ n <= 4096)) : n = cqS m h n b := by
 unfold cqS; rw [if_neg h1]
attribute [local irreducible] Pur yr yw Ex X Fn Imp LeV LeB FnO It yx FnW FnOW FnP FnD
attribute [local irreducible] wcE btF btC ckT ckM allE bthE urQ pvQ smQ plQ rjL rjP frV cqO cqN cqS wcnE wcnV fmV
theorem zeH (b : Bt) : Fn Tryz.prog 87 [btA b] (iv (btC b)) := by
 refine Fn.go Tryz.func87 Tryz.ntmps87 (fun g w d => ?_);refine gq ?_;refine yb (z6 b.Dur) ?_;refine gd ?_ ?_<;>intro hc1
 ·have hV : btC b = ckT b.Dur := by unfold btC; rw [if_neg hc1]
  refine gq ?_;all_goals (rw [hV])
 have h0 : ckT b.Dur = 0 := by omega
 refine gd ?_ ?_<;>intro hc2
 ·have hV : btC b = 2 := by unfold btC; rw [if_pos h0, if_pos hc2]
  refine gq ?_;all_goals (rw [hV])
 have hV : btC b = 0 := by unfold btC; rw [if_pos h0, if_neg hc2]
 refine gq ?_;all_goals (rw [hV])
theorem zbx (m : Mn) (l : List Bt) (hl : l.length <= 4000000000) : Fn Tryz.prog 67 [mnA m, btsA l] (iv (wcE m l)) := by
 refine Fn.go Tryz.func67 Tryz.ntmps67 (fun g w d => ?_);refine gq ?_;refine yb (zD m) ?_;refine gd ?_ ?_<;>intro hc1
 ·have hV := zuI (l := l) hc1;refine gq ?_;all_goals (rw [hV])
 have h0 : ckM m = 0 := by omega
 have h0s : iv (ckM m) = iv 0 := by rw [h0]
 refine gq ?_
 refine yS (ι := Nat) (fun k => [(1, btsA l), (5, iv 0), (6, iv (k : Int))]) (fun k => []) (fun (k : Nat) => k <= l.length /\ btF (l.take k) = 0) (fun (k : Nat) => l.length - k) 0 (fun k hk => ?_) (hJ := by exact ⟨by omega, by unfold btF; rfl⟩) (h0 := by exact yd)
 obtain ⟨hk1, hk2⟩ := hk;refine gd ?_ ?_<;>intro hc2
 ·obtain ⟨b, hb⟩ : ∃ b, l[k]? = some b := ⟨_, lgg (by omega)⟩;have hb2 : l[(k : Int).toNat]? = some b := by simpa using hb
  refine gq ?_;refine yb (zeH b) ?_;refine gd ?_ ?_<;>intro hc3
  ·have hV := zu4 h0 hb hk2 hc3;refine gq ?_;all_goals (rw [hV])
  have h3 : btC b = 0 := by omega
  have hst := zu5 hb hk2 h3;refine gq ?_
  refine yz (k + 1) (hJ := by exact ⟨by omega, hst⟩) (hI := yd)
 ·obtain rfl : k = l.length := by omega
  have hV := zuJ h0 hk2;refine gq ?_;all_goals (rw [hV])
theorem zeI (s : Sp) (b : Bt) (h : Hb) : Fn Tryz.prog 89 [spA s, btA b, hbA h] (.bool (urQ b h s)) := by
 refine Fn.go Tryz.func89 Tryz.ntmps89 (fun g w d => ?_);apply yg;iterate 3 refine zaS ?_
 refine ya ?_;apply yI;iterate 5 refine ya ?_
 refine ExF.at 5 ?_;refine yA ?_;iterate 7 refine ExF.gi ?_
 iterate 2 refine yA ?_
 iterate 7 refine ExF.gi ?_
 iterate 2 refine yA ?_
 iterate 7 refine ExF.gi ?_
 refine ge ?_;all_goals (first | (unfold urQ; simp; done) | (unfold urQ; rfl))
set_option maxHeartbeats 4000000 in
theorem zeh (m : Mn) (b : Bt) (h : Hb) : Fn Tryz.prog 68 [mnA m, btA b, hbA h] (.tup [zF (fmV m b h), iv (wcE m [b])]) := by
 have hal := zlZ m b.Dur;have hr0 := zu8 m b h;have hr8 := zva m b h;refine Fn.go Tryz.func68 Tryz.ntmps68 (fun g w d => ?_);refine gq ?_;refine Ex.stepA (zac (enc := btE) (l := [b]) sl22 ty76 ze76) rfl rfl ?_;refine yb (zbx m [b] (by simp)) ?_;refine gd ?_ ?_<;>intro hc1
 ·have hV : fmV m b h = [] := by unfold fmV; rw [if_neg hc1]
  apply yg;refine zh ?_;refine X.ret ?_;refine RetQ.imp (ye (ts := [(6, zF []), (7, iv (wcE m [b]))]) (hs := [])) ?_;refine yi ?_ ?_;all_goals (first | (rw [hV]; done) | rfl | (rw [h0]; rfl) | (rw [hr8, hV]; rfl))
 have h0 : wcE m [b] = 0 := by omega
 have hV : fmV m b h = frV m b h := by unfold fmV; rw [if_pos h0]
 refine gq ?_;refine yb (ze5 m b.Dur) ?_;iterate 5 refine ya ?_
 apply yI;refine yu ?_;iterate 2 apply yl
 refine X.imp (yL sgsE 27 1 11 30 rfl rfl) ?_;refine gq ?_
 refine yS (ι := Nat) (fun j => [(4, .ptr 4 0 0 0), (5, .ptr 5 0 0 0), (9, spsA (allE m b.Dur)), (11, .own 30), (12, iv (1 + (j : Int)))]) (fun j => [(4, .box (btE b) 76), (5, .box (hbE h) 35), (30, .row sgsE (rjL m b h j 0) 27 1)]) (fun (j : Nat) => j <= 8) (fun (j : Nat) => 8 - j) 0 (fun j hk => ?_) (h0 := by exact yd)
 refine gd ?_ ?_<;>intro hc2
 ·have hrl := zl5 m b h j;refine gq ?_
  refine yS (ι := Nat) (fun n => [(4, .ptr 4 0 0 0), (5, .ptr 5 0 0 0), (9, spsA (allE m b.Dur)), (11, .own 30), (12, iv (1 + (j : Int))), (13, iv (n : Int))]) (fun n => [(4, .box (btE b) 76), (5, .box (hbE h) 35), (30, .row sgsE (rjL m b h j n) 27 1)]) (fun (n : Nat) => n <= 2) (fun (n : Nat) => 2 - n) 0 (fun n hk => ?_) (h0 := by exact yd)
  refine gd ?_ ?_<;>intro hc3
  ·have hs0 : false = smQ b h (1 + (j : Int)) (cI n) ((allE m b.Dur).take 0) := by unfold smQ; rfl
   have hp0 : false = plQ b h (1 + (j : Int)) (cI n) ((allE m b.Dur).take 0) := by unfold plQ; rfl
   refine gq ?_
   refine yS (ι := Nat) (fun i => [(4, .ptr 4 0 0 0), (5, .ptr 5 0 0 0), (9, spsA (allE m b.Dur)), (11, .own 30), (12, iv (1 + (j : Int))), (13, iv (n : Int)), (14, .bool (smQ b h (1 + (j : Int)) (cI n) ((allE m b.Dur).take i))), (15, .bool (plQ b h (1 + (j : Int)) (cI n) ((allE m b.Dur).take i))), (16, iv (i : Int))]) (fun i => [(4, .box (btE b) 76), (5, .box (hbE h) 35), (30, .row sgsE (rjL m b h j n) 27 1)]) (fun (i : Nat) => i <= (allE m b.Dur).length) (fun (i : Nat) => (allE m b.Dur).length - i) 0 (fun i hk => ?_) (h0 := by exact yd)
   refine gd ?_ ?_<;>intro hc4
   ·obtain ⟨s, hs⟩ : ∃ s, (allE m b.Dur)[i]? = some s := ⟨_, lgg (by omega)⟩;have hs2 : (allE m b.Dur)[(i : Int).toNat]? = some s := by simpa using hs
    have hsm := zu6 (b := b) (h := h) (v := (1 + (j : Int))) (c := cI n) hs;have hpl := zu7 (b := b) (h := h) (v := (1 + (j : Int))) (c := cI n) hs;refine gq ?_;refine zf [46,47,48,49,50,51,52,53,54,55,56,57,58,59,60,61,62,63,64,65,66,67,68,69,70,71] [0,0,3,7,15,0,63,127,255,255,1023,2047,4095,255,8447,32767,65535,131071,262143,262143,1048575,2097151,262143,262143,16777215,33554431] mo ?_;(iterate 8 refine yc ?_);(iterate 8 refine ChM.gi ?_);(iterate 2 refine yc ?_);(iterate 6 refine ChM.gi ?_);refine ChM.cg (zeI s b h) ?_;refine yc ?_;refine yE ?_;refine gd ?_ ?_<;>intro hc5
    ·have hp : pvQ b h (1 + (j : Int)) (cI n) s = true := by
      obtain ⟨⟨p1, p2⟩, p3⟩ := hc5;unfold pvQ cI; rw [p3]; simp only [beq_iff_eq] at p2; simp [p1, p2]
     rw [hp] at hsm hpl;simp only [Bool.or_true, Bool.true_and] at hsm hpl;have hsm2 := hsm.symm;have hpl2 := hpl.symm;apply yg;refine yu ?_;apply ym;refine ya ?_;refine ExF.at 1 ?_;refine yA ?_;(iterate 6 refine ExF.gi ?_);refine ge ?_;refine yz (i + 1) (hI := yd)
    ·have hp : pvQ b h (1 + (j : Int)) (cI n) s = false := by
      unfold pvQ cI;rcases hc5 with (p | p) | p
      ·simp [p]
      ·have p2 : ¬ s.Color = decide ((n : Int) = 1) := by simpa using p
       rw [decide_eq_false p2]; simp
      ·rw [p]; simp
     rw [hp] at hsm hpl;simp only [Bool.or_false, Bool.false_and] at hsm hpl;have hsm2 := hsm.symm;have hpl2 := hpl.symm;refine gq ?_;refine yz (i + 1) (hI := yd)
   ·obtain rfl : i = (allE m b.Dur).length := by omega
    have hsf : smQ b h (1 + (j : Int)) (cI n) ((allE m b.Dur).take (allE m b.Dur).length) = smQ b h (1 + (j : Int)) (cI n) (allE m b.Dur) := by rw [List.take_length]
    have hpf : plQ b h (1 + (j : Int)) (cI n) ((allE m b.Dur).take (allE m b.Dur).length) = plQ b h (1 + (j : Int)) (cI n) (allE m b.Dur) := by rw [List.take_length]
    apply X.exit;apply yg;(iterate 4 refine ya ?_);refine zB ?_;refine Ex.mo ?_;apply Ex.nil;refine zdS ⟨[(4, .ptr 4 0 0 0), (5, .ptr 5 0 0 0), (9, spsA (allE m b.Dur)), (11, .own 30), (12, iv (1 + (j : Int))), (13, iv (n : Int)), (14, .bool (smQ b h (1 + (j : Int)) (cI n) (allE m b.Dur))), (15, .bool (plQ b h (1 + (j : Int)) (cI n) (allE m b.Dur))), (17, .ptr 17 0 0 0)], [(4, .box (btE b) 76), (5, .box (hbE h) 35), (30, .row sgsE (rjL m b h j n) 27 1), (17, .box (sgE (foB b.Rest (1 + (j : Int)) (cI n))) 41)]⟩ (fun hJ22 => ?_) ?_
    ·refine gd ?_ ?_<;>intro hc6
     ·have hB6 : sgE ⟨2, (1 + (j : Int)), 0, 0, false, 0, false, false, ⟨0, 0, 0, 0⟩, false, 0, 0, 0, 0⟩ = sgE (foB b.Rest (1 + (j : Int)) (cI n)) := by unfold foB; rw [if_pos hc6]
      apply ym;(iterate 2 refine ya ?_);refine Ex.mo ?_;apply Ex.nil;exact X.imp yd hJ22
     ·have hB6 : sgE ⟨1, (1 + (j : Int)), 4, 0, decide ((n : Int) = 1), 0, false, false, ⟨0, 0, 0, 0⟩, false, 0, 0, 0, 0⟩ = sgE (foB b.Rest (1 + (j : Int)) (cI n)) := by unfold foB cI; rw [if_neg (by simp [hc6])]
      apply yp;exact X.imp yd hJ22
    refine zdS ⟨[(4, .ptr 4 0 0 0), (5, .ptr 5 0 0 0), (9, spsA (allE m b.Dur)), (11, .own 30), (12, iv (1 + (j : Int))), (13, iv (n : Int)), (14, .bool (smQ b h (1 + (j : Int)) (cI n) (allE m b.Dur))), (17, .ptr 17 0 0 0)], [(4, .box (btE b) 76), (5, .box (hbE h) 35), (30, .row sgsE (rjP m b h j n) 27 1), (17, .box (sgE (foB b.Rest (1 + (j : Int)) (cI n))) 41)]⟩ (fun hJ24 => ?_) ?_
    ·refine gd ?_ ?_<;>intro hc7
     ·have hst7 := zvc hc7;have hl7 := hrl n (by omega);refine gq ?_;refine Ex.stepA (zac (enc := sgE) (l := [foB b.Rest (1 + (j : Int)) (cI n)]) sl27 ty41 ze41) rfl rfl ?_;refine Ex.stepA (zac (enc := sgsE) (l := [[foB b.Rest (1 + (j : Int)) (cI n)]]) sl55 ty27 ze27) rfl rfl ?_;refine Ex.mo ?_;refine yu ?_;exact X.imp yd hJ24
     ·have hst7 := zvd (m := m) (by simpa using hc7);apply yp;exact X.imp yd hJ24
    apply yg;refine ya ?_;refine ExF.at 1 ?_;refine yA ?_;(iterate 2 refine ExF.gi ?_);refine gf ?_ ?_<;>intro hc8
    ·have hl8 := zp6 m b h j n (by omega);have hst8 := zve (by omega) hc8.1 hc8.2;refine gq ?_;refine Ex.stepA (zac (enc := sgE) (l := [foB b.Rest (1 + (j : Int)) (cI n), doS]) sl27 ty41 ze41) rfl rfl ?_;refine Ex.stepA (zac (enc := sgsE) (l := [[foB b.Rest (1 + (j : Int)) (cI n), doS]]) sl55 ty27 ze27) rfl rfl ?_;refine gq ?_;refine yz (n + 1) (hI := yd)
    ·have hst8 := zvf (m := m) (b := b) (h := h) (j := j) (n := n) (by omega) (by rcases hc8 with e | e <;> simp [e]);refine gq ?_;refine yz (n + 1) (hI := yd)
  ·obtain rfl : n = 2 := by omega
   have hjj := zu9 m b h j;refine gq ?_;refine yz (j + 1) (hI := yd)
 ·obtain rfl : j = 8 := by omega
  apply X.exit;apply yg;refine zh ?_;refine X.ret ?_;refine RetQ.imp (Imp.freeze (k := 30) rfl) ?_;refine yi ?_ ?_;all_goals (first | (rw [hV]; done) | rfl | (rw [h0]; rfl) | (rw [hr8, hV]; rfl))
end
section
theorem zsV {m : Mn} {l : List Bt} (h : wcE m l = 0) {b : Bt} (hb : b ∈ l) : wcE m [b] = 0 := by
 unfold wcE at *
 split at h
 ·rename_i h0;rw [if_pos h0];have := zfg.1 h b hb;show (if btC b = 0 then 0 else btC b) = 0;rw [if_pos this]
 ·exact absurd h ‹_›
theorem zsW {m : Mn} {l : List Bt} (h : wcE m l = 0) {b : Bt} (hb : b ∈ l) (q : Hb) : fmV m b q = frV m b q := by
 unfold fmV; rw [if_pos (zsV h hb)]
attribute [local irreducible] Pur yr yw Ex X Fn Imp LeV LeB FnO It yx FnW FnOW FnP FnD
attribute [local irreducible] wcE frV fmV cqO cqN cqS wcnE wcnV durB
set_option maxHeartbeats 1000000 in
theorem zei (m : Mn) (l : List Bt) (h : Hb) (hl : l.length <= 4000000000) : Fn Tryz.prog 49 [mnA m, btsA l, hbA h] (.tup [iv (wcnV m l h), iv (wcnE m l h)]) := by
 have hn0 : (1 : Int) = ((cqN m h (l.take 0) : Nat) : Int) := by unfold cqN; rfl
 have ho0 : false = cqO m h (l.take 0) := by unfold cqO; rfl
 refine Fn.go Tryz.func49 Tryz.ntmps49 (fun g w d => ?_);refine gq ?_;refine yb (zbx m l hl) ?_;refine gd ?_ ?_<;>intro hc1
 ·have hZ1 := zlV (h := h) hc1;obtain ⟨hE, hV⟩ := hZ1;refine gq ?_;refine yi ?_ ?_;all_goals (first | (rw [hV]; done) | (rw [hE]; done) | (rw [hV, htN]; done))
 have h0 : wcE m l = 0 := by omega
 refine gd ?_ ?_<;>intro hc2
 ·have hZ2 := zlW (h := h) h0 (by omega);obtain ⟨hE, hV⟩ := hZ2;refine gq ?_;refine yi ?_ ?_;all_goals (first | (rw [hV]; done) | (rw [hE]; done) | (rw [hV, htN]; done))
 have h12 : ¬ 12 < l.length := by omega
 refine gq ?_
 refine yS (ι := Nat) (fun k => [(1, btsA l), (3, .ptr 3 0 0 0), (5, .ptr 5 0 0 0), (9, iv ((cqN m h (l.take k) : Nat) : Int)), (10, .bool (cqO m h (l.take k))), (11, iv (k : Int))]) (fun k => [(3, .box (mnE m) 32), (5, .box (hbE h) 35)]) (fun (k : Nat) => k <= l.length) (fun (k : Nat) => l.length - k) 0 (fun k hk => ?_) (h0 := by exact yd)
 refine gd ?_ ?_<;>intro hc3
 ·obtain ⟨b, hb⟩ : ∃ b, l[k]? = some b := ⟨_, lgg (by omega)⟩;have hb2 : l[(k : Int).toNat]? = some b := by simpa using hb
  have hFm := zeh m b h;rw [zsW h0 (List.mem_of_getElem? hb)] at hFm;have hf := zdY m b h
  have hO : (cqO m h (l.take k) || decide (((frV m b h).length : Int) = 0)) = cqO m h (l.take (k + 1)) := by
   rw [zuP hb]; exact congrArg _ (decide_eq_decide.2 (by omega))
  have hq : cqN m h (l.take (k + 1)) <= 131072 := by unfold cqN; exact zsC m h _ 1 (by decide)
  have hs := zuQ (m := m) (h := h) hb;refine gq ?_;refine zf [12,13,29,30,31,32,33,34,35,36,37,38] [0,0,0,6,14,0,63,127,255,255,511,2047] mo ?_;iterate 6 refine yc ?_
  refine yM hFm ?_;iterate 5 refine yc ?_
  refine yE ?_;apply yI;refine ya ?_;refine ExF.at 1 ?_;refine yA ?_;iterate 3 refine ExF.gi ?_
  refine zfx ?_;iterate 2 refine ya ?_
  apply yI;iterate 3 refine ya ?_
  refine ExF.at 3 ?_;refine yA ?_;iterate 2 refine ExF.gi ?_
  refine gf ?_ ?_<;>intro hc4
  ·have hN : ((cqN m h (l.take k) : Nat) : Int) * ((frV m b h).length : Int) = ((cqN m h (l.take (k + 1)) : Nat) : Int) := by rw [hs]; exact zvg (by omega) (by omega)
   refine gq ?_;refine yz (k + 1) (hI := yd)
  ·have hN : ((cqN m h (l.take k) : Nat) : Int) = ((cqN m h (l.take (k + 1)) : Nat) : Int) := by rw [hs, ← zvh (by omega)]
   refine gq ?_;refine yz (k + 1) (hI := yd)
 ·obtain rfl : k = l.length := by omega
  have htO : cqO m h (l.take l.length) = cqO m h l := by rw [List.take_length]
  have htN : cqN m h (l.take l.length) = cqN m h l := by rw [List.take_length]
  refine gd ?_ ?_<;>intro hc5
  ·have hZ3 := zxT h0 h12 (by rw [← htO]; exact hc5);obtain ⟨hE, hV⟩ := hZ3;refine gq ?_;refine yi ?_ ?_;all_goals (first | (rw [hV]; done) | (rw [hE]; done) | (rw [hV, htN]; done))
  have hoF : cqO m h l = false := by rw [← htO]; simpa using hc5
  refine gd ?_ ?_<;>intro hc6
  ·have hZ4 := zxU h0 h12 hoF (by rw [← htN]; omega);obtain ⟨hE, hV⟩ := hZ4;refine gq ?_;refine yi ?_ ?_;all_goals (first | (rw [hV]; done) | (rw [hE]; done) | (rw [hV, htN]; done))
  have hZ5 := zxV h0 h12 hoF (by rw [← htN]; omega);obtain ⟨hE, hV⟩ := hZ5;refine gq ?_;refine yi ?_ ?_;all_goals (first | (rw [hV]; done) | (rw [hE]; done) | (rw [hV, htN]; done))
end
section
def ltQ (m : Mn) (z : List Bt) : Bool := decide (z.length <= 20) && (!decide (wcnE m z (hbM 7) = 15) && decide (wcnV m z (hbM 7) <= 300))
attribute [local irreducible] Pur yr yw Ex X Fn Imp LeV LeB FnO It yx FnW FnOW FnP FnD
attribute [local irreducible] wcnE wcnV hbM
theorem zfG (n : Int) : Fn Tryz.prog 50 [iv n] (hbA (hbM n)) := by
 refine Fn.go Tryz.func50 Tryz.ntmps50 (fun g w d => ?_);refine gq ?_;refine RetQ.ret (.one (.cellA rfl rfl rfl rfl ty35 (LeV.eq ?_)));all_goals (unfold hbM; rfl)
theorem zej (m : Mn) (z : List Bt) (hl : z.length <= 4000000000) : Fn Tryz.prog 31 [mnA m, btsA z] (.bool (ltQ m z)) := by
 refine Fn.go Tryz.func31 Tryz.ntmps31 (fun g w d => ?_);refine gd ?_ ?_<;>intro hc1
 ·have hD : ltQ m z = false := by unfold ltQ; rw [decide_eq_false (by omega)]; rfl
  refine gq ?_;all_goals (first | (rw [hD]; done) | (rw [hD]; rfl))
 have hD : ltQ m z = (!decide (wcnE m z (hbM 7) = 15) && decide (wcnV m z (hbM 7) <= 300)) := by unfold ltQ; rw [decide_eq_true (by omega), Bool.true_and]
 refine gq ?_;refine zf [5,6,10,11,12,13,14,15,16] [0,0,0,7,15,31,31,63,255] mo ?_;iterate 2 refine yc ?_
 refine yM (zfG 7) ?_;refine yM (zei m z (hbM 7) hl) ?_;iterate 5 refine yc ?_
 refine yE ?_;apply yI;iterate 2 refine ya ?_
 refine ExF.at 2 ?_;refine yA ?_;iterate 2 refine ExF.gi ?_
 refine ge ?_;all_goals (first | (rw [hD]; done) | (rw [hD]; rfl))
end
end Go.Rse
