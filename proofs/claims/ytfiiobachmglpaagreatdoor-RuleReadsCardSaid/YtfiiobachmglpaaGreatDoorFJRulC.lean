/-
  A run read by the rule.
  Walks: a run read by the rule.
  Walks: the durations of a run by the rule.
-/
import Derived.Test.YtfiiobachmglpaaGreatDoorFRulA
import Derived.Test.YtfiiobachmglpaaGreatDoorFJKit1
import Derived.Test.YtfiiobachmglpaaGreatDoorFJRef9b
import Derived.Test.YtfiiobachmglpaaGreatDoorFRulB
import Derived.Test.YtfiiobachmglpaaGreatDoorFLogD
set_option linter.unusedSimpArgs false
set_option linter.unusedVariables false
namespace Go.Rse
open Go Go.Proofs
def rdI (m : Mn) (l : List Sg) : List Ite := itmV m l (zm m l) (twos (prL m l).length)
def rdE (m : Mn) (l : List Sg) : Int := if ckD m l = 0 then leE m (rdI m l) else ckD m l
def rdV (m : Mn) (l : List Sg) : Rdg := if rdE m l = 0 then ⟨zm m l, twos (prL m l).length, leC m (rdI m l), (leI m (rdI m l)).map (·.Dur)⟩ else ⟨[], [], [], []⟩
section
variable {m : Mn} {l : List Sg}
theorem zpM (h : ckD m l = 0) : itmE m l (zm m l) (twos (prL m l).length) = 0 := by
 unfold itmE;rw [if_pos (zkW (zci h).1 h)]; exact zkX h
theorem zr4 (h : ¬ ckD m l = 0) : rdE m l = ckD m l /\ rdV m l = ⟨[], [], [], []⟩ := by
 have : rdE m l = ckD m l := by unfold rdE; rw [if_neg h]
 refine ⟨this, ?_⟩; unfold rdV; rw [this, if_neg h]
theorem zr5 (h : ckD m l = 0) (h2 : ¬ leE m (rdI m l) = 0) : rdE m l = leE m (rdI m l) /\ rdV m l = ⟨[], [], [], []⟩ := by
 have : rdE m l = leE m (rdI m l) := by unfold rdE; rw [if_pos h]
 refine ⟨this, ?_⟩; unfold rdV; rw [this, if_neg h2]
theorem zqq (h : ckD m l = 0) (h2 : leE m (rdI m l) = 0) : rdE m l = 0 /\ rdV m l = ⟨zm m l, twos (prL m l).length, leC m (rdI m l), (leI m (rdI m l)).map (·.Dur)⟩ := by
 have : rdE m l = 0 := by unfold rdE; rw [if_pos h, h2]
 refine ⟨this, ?_⟩; unfold rdV; rw [this, if_pos rfl]
theorem zgF : (rdI m l).length <= l.length := zmQ _ _ _ _
end
theorem zk1 {m : Mn} : ∀ (L : List Int) (l : List Ite) (C : List Int), (lvF m L l C).2.1.length <= l.length
 | [], l, C => Nat.le_refl _
 | k :: r, l, C => by
  unfold lvF;split
  ·rename_i h;have := zk1 (m := m) r (apV m k l (cuV m k l)) (C ++ cuV m k l);rw [zl0 (zld h)] at this; exact this
  ·simp
theorem ziQ (m : Mn) (l : List Ite) : (leI m l).length <= l.length := by
 unfold leI;split
 ·exact zk1 _ _ _
 ·simp
theorem zmR {l : List Ite} {n : Nat} {x : Ite} (h : l[n]? = some x) : (l.take n).map (·.Dur) ++ [x.Dur] = (l.take (n + 1)).map (·.Dur) := by
 rw [List.take_add_one, h]; simp
end Go.Rse
namespace Go.Rse
open Go Go.Proofs
attribute [local irreducible] Pur yK yM Ex X Fn Imp LeV LeB FnO It yW FnW FnOW FnP FnD
attribute [local irreducible] leE leC leI rdI rdE rdV ckD zm twos prL itmV itmE
set_option maxHeartbeats 4000000 in
theorem zgf (m : Mn) (l : List Sg) (hl : l.length <= 1000) : Fn Tryz.prog 26 [mnA m, sgsA l] (.tup [rdgA (rdV m l), iv (rdE m l)]) := by
 have hR := zjC m l hl;have hil := zgF (m := m) (l := l);have hLl := ziQ m (rdI m l);have hpl : (twos (prL m l).length).length <= 1000 := by rw [zby]; have := zcT m l; omega
 have hdl : (zm m l).length <= 4000000 := by have := zfh m l; have := zfe m l; omega
 refine Fn.go Tryz.func26 Tryz.ntmps26 (fun g w d => ?_);apply yb;refine yH ?_;refine yJ ?_;refine ye ?_;apply yd;apply yb;iterate 2 refine ya ?_
 refine yr (zcn m l hl) ?_;refine ya ?_;apply yn;refine yh ?_;refine yk rfl ?_ ?_<;>intro hc1
 ·have hZ1 := zr4 hc1;obtain ⟨hE, hV⟩ := hZ1;apply yb;iterate 2 refine ya ?_
  refine yi ?_;refine ye ?_;refine X.ret ?_;refine yu (zaw (ts := [(4, .ptr 4 0 0 0), (5, iv (ckD m l))]) (hs := [(4, .box [yg [], yg [], yg [], tmsA []] 41)]) ⟨⟨_, rfl, LeV.refl _⟩, ⟨_, rfl, LeV.refl _⟩, True.intro⟩ ⟨⟨_, rfl, LeB.box (.cons (LeV.nils _) (.cons (LeV.nils _) (.cons (LeV.nils _) (.cons (LeV.nils _) .nil))))⟩, True.intro⟩) ?_;refine yF ty41 ?_ ?_;all_goals (first | exact congrArg (fun z => AV.agg (rdgE z)) hV.symm | exact congrArg (fun z => AV.int .i64 z) hE.symm)
 have h0 : ckD m l = 0 := by omega
 rw [if_pos h0, h0] at hR;have hit := zpM h0
 have hI : Fn Tryz.prog 33 [mnA m, sgsA l, yg (zm m l), yg (twos (prL m l).length)] (.tup [itsA (rdI m l), iv 0]) := by
  have h := ziN m l (zm m l) (twos (prL m l).length) hl hpl;rw [hit] at h; unfold rdI; exact h
 apply yf;apply yb;iterate 2 refine ya ?_
 refine yr hR ?_;iterate 6 refine ya ?_
 refine ye ?_;apply yd;apply yb;refine yh ?_;refine yk rfl ?_ ?_<;>intro hc2
 ·exact absurd rfl hc2
 apply yf;apply yb;iterate 4 refine ya ?_
 refine yr hI ?_;refine y4 ?_;apply yd;apply yb;refine yh ?_;refine yk rfl ?_ ?_<;>intro hc3
 ·exact absurd rfl hc3
 apply yf;apply yb;iterate 2 refine ya ?_
 refine yr (zhW m (rdI m l) (by omega)) ?_;iterate 6 refine ya ?_
 refine ye ?_;apply yd;apply yb;refine yh ?_;refine yk rfl ?_ ?_<;>intro hc4
 ·have hZ2 := zr5 h0 hc4;obtain ⟨hE, hV⟩ := hZ2;apply yb;iterate 2 refine ya ?_
  refine yi ?_;refine ye ?_;refine X.ret ?_;refine yu (zaw (ts := [(4, .ptr 4 0 0 0), (5, iv (leE m (rdI m l)))]) (hs := [(4, .box [yg [], yg [], yg [], tmsA []] 41)]) ⟨⟨_, rfl, LeV.refl _⟩, ⟨_, rfl, LeV.refl _⟩, True.intro⟩ ⟨⟨_, rfl, LeB.box (.cons (LeV.nils _) (.cons (LeV.nils _) (.cons (LeV.nils _) (.cons (LeV.nils _) .nil))))⟩, True.intro⟩) ?_;refine yF ty41 ?_ ?_;all_goals (first | exact congrArg (fun z => AV.agg (rdgE z)) hV.symm | exact congrArg (fun z => AV.int .i64 z) hE.symm)
 have h2 : leE m (rdI m l) = 0 := by omega
 have hZ3 := zqq h0 h2;obtain ⟨hE, hV0⟩ := hZ3;have hz0 : [] = ((leI m (rdI m l)).take 0).map (fun x => x.Dur) := by simp
 apply yf;apply yb;iterate 4 refine ya ?_
 refine yJ ?_;refine yi ?_;apply Ex.nil;iterate 2 apply yd
 refine y3 (st' := ⟨[(4, .ptr 4 0 0 0), (10, itsA (leI m (rdI m l))), (12, .ptr 12 0 0 0)], [(4, .box [.nils, .nils, .nils, .nils] 41), (12, .box [yg (zm m l), yg (twos (prL m l).length), yg (leC m (rdI m l)), .own 40] 41), (40, .row tmE [] 60 2)]⟩) ((zc7 tmE 60 2 12 40 3 41 _ [yg (zm m l), yg (twos (prL m l).length), yg (leC m (rdI m l)), .own 40] rfl rfl rfl rfl).trans yl) ?_;apply yc;refine yp ?_;apply X.block
 refine y9 (ι := Nat) (fun (n : Nat) => [(4, .ptr 4 0 0 0), (12, .ptr 12 0 0 0), (60, itsA (leI m (rdI m l))), (61, iv (leI m (rdI m l)).length), (62, iv (n : Int))]) (fun (n : Nat) => [(4, .box [.nils, .nils, .nils, .nils] 41), (12, .box [yg (zm m l), yg (twos (prL m l).length), yg (leC m (rdI m l)), .own 40] 41), (40, .row tmE (((leI m (rdI m l)).take n).map (fun x => x.Dur)) 60 2)]) (fun (n : Nat) => n <= (leI m (rdI m l)).length) (fun (n : Nat) => (leI m (rdI m l)).length - n) 0 (fun n hk => ?_) (h0 := by
  exact yx)
 apply yb;refine ye ?_;apply yd;refine yk rfl ?_ ?_<;>intro hc5
 ·obtain ⟨x, hx⟩ : ∃ x, (leI m (rdI m l))[n]? = some x := ⟨_, lgg (by omega)⟩;have hx2 : (leI m (rdI m l))[(n : Int).toNat]? = some x := by simpa using hx
  have hst := zmR hx;have htl : (((leI m (rdI m l)).take n).map (fun x => x.Dur)).length <= 1000 := by rw [List.length_map, List.length_take]; omega
  apply yf;apply yd;apply X.block;apply yb;iterate 2 refine ya ?_
  refine yJ ?_;refine yi ?_;apply Ex.nil;apply yc;iterate 4 refine ya ?_
  refine yO tmE [⟨_, _⟩] ?_;refine yi ?_;refine ya ?_;refine yi ?_;apply Ex.nil;apply yc;refine yh ?_;refine yL (n + 1) (hI := yx)
 ·have hn : n = (leI m (rdI m l)).length := by omega
  subst hn;have hV : rdV m l = ⟨zm m l, twos (prL m l).length, leC m (rdI m l), ((leI m (rdI m l)).take (leI m (rdI m l)).length).map (fun x => x.Dur)⟩ := by rw [hV0, List.take_length]
  apply X.exit;apply yd;refine y3 (st' := ⟨[(4, .ptr 4 0 0 0), (12, .ptr 12 0 0 0)], [(4, .box [.nils, .nils, .nils, .nils] 41), (12, .box [yg (zm m l), yg (twos (prL m l).length), yg (leC m (rdI m l)), tmsA (((leI m (rdI m l)).take (leI m (rdI m l)).length).map (fun x => x.Dur))] 41)]⟩) ((Imp.freeze (k := 40) rfl).trans yl) ?_;apply yc;refine ya ?_;refine yi ?_;refine ye ?_;refine X.ret ?_;refine yF ty41 ?_ ?_;all_goals (first | exact congrArg (fun z => AV.agg (rdgE z)) hV.symm | exact congrArg (fun z => AV.int .i64 z) hE.symm)
set_option maxHeartbeats 4000000 in
theorem zbZ (m : Mn) (l : List Sg) (hl : l.length <= 1000) : Fn Tryz.prog 27 [mnA m, sgsA l] (.tup [rdgA (rdV m l), iv (rdE m l)]) := by
 have hR := zeV m l hl;have hil := zgF (m := m) (l := l);have hLl := ziQ m (rdI m l);have hpl : (twos (prL m l).length).length <= 1000 := by rw [zby]; have := zcT m l; omega
 have hdl : (zm m l).length <= 4000000 := by have := zfh m l; have := zfe m l; omega
 refine Fn.go Tryz.func27 Tryz.ntmps27 (fun g w d => ?_);apply yb;refine yH ?_;refine yJ ?_;refine ya ?_;apply yn;iterate 2 refine ya ?_
 refine yr (zbF m l hl) ?_;refine ye ?_;apply yd;apply yb;refine yh ?_;refine yk rfl ?_ ?_<;>intro hc1
 ·have hZ1 := zr4 hc1;obtain ⟨hE, hV⟩ := hZ1;apply yb;iterate 2 refine ya ?_
  refine yi ?_;refine ye ?_;refine X.ret ?_;refine yu (zaw (ts := [(4, .ptr 4 0 0 0), (5, iv (ckD m l))]) (hs := [(4, .box [yg [], yg [], yg [], tmsA []] 41)]) ⟨⟨_, rfl, LeV.refl _⟩, ⟨_, rfl, LeV.refl _⟩, True.intro⟩ ⟨⟨_, rfl, LeB.box (.cons (LeV.nils _) (.cons (LeV.nils _) (.cons (LeV.nils _) (.cons (LeV.nils _) .nil))))⟩, True.intro⟩) ?_;refine yF ty41 ?_ ?_;all_goals (first | exact congrArg (fun z => AV.agg (rdgE z)) hV.symm | exact congrArg (fun z => AV.int .i64 z) hE.symm)
 have h0 : ckD m l = 0 := by omega
 rw [if_pos h0, h0] at hR;have hit := zpM h0
 have hI : Fn Tryz.prog 81 [mnA m, sgsA l, yg (zm m l), yg (twos (prL m l).length)] (.tup [itsA (rdI m l), iv 0]) := by
  have h := zex m l (zm m l) (twos (prL m l).length) hl hdl hpl;rw [hit] at h; unfold rdI; exact h
 apply yf;apply yb;iterate 2 refine ya ?_
 refine yr hR ?_;iterate 7 refine ya ?_
 apply yn;iterate 4 refine ya ?_
 refine yr hI ?_;iterate 5 refine ya ?_
 apply yn;iterate 2 refine ya ?_
 refine yr (zed m (rdI m l) (by omega)) ?_;iterate 6 refine ya ?_
 refine ye ?_;apply yd;apply yb;refine yh ?_;refine yk rfl ?_ ?_<;>intro hc2
 ·have hZ2 := zr5 h0 hc2;obtain ⟨hE, hV⟩ := hZ2;apply yb;iterate 2 refine ya ?_
  refine yi ?_;refine ye ?_;refine X.ret ?_;refine yu (zaw (ts := [(4, .ptr 4 0 0 0), (5, iv (leE m (rdI m l)))]) (hs := [(4, .box [yg [], yg [], yg [], tmsA []] 41)]) ⟨⟨_, rfl, LeV.refl _⟩, ⟨_, rfl, LeV.refl _⟩, True.intro⟩ ⟨⟨_, rfl, LeB.box (.cons (LeV.nils _) (.cons (LeV.nils _) (.cons (LeV.nils _) (.cons (LeV.nils _) .nil))))⟩, True.intro⟩) ?_;refine yF ty41 ?_ ?_;all_goals (first | exact congrArg (fun z => AV.agg (rdgE z)) hV.symm | exact congrArg (fun z => AV.int .i64 z) hE.symm)
 have h2 : leE m (rdI m l) = 0 := by omega
 have hZ3 := zqq h0 h2;obtain ⟨hE, hV0⟩ := hZ3;have hz0 : [] = ((leI m (rdI m l)).take 0).map (fun x => x.Dur) := by simp
 apply yf;apply yb;iterate 4 refine ya ?_
 refine yJ ?_;refine yi ?_;apply Ex.nil;iterate 2 apply yd
 refine y3 (st' := ⟨[(4, .ptr 4 0 0 0), (10, itsA (leI m (rdI m l))), (13, .ptr 13 0 0 0)], [(4, .box [.nils, .nils, .nils, .nils] 41), (13, .box [yg (zm m l), yg (twos (prL m l).length), yg (leC m (rdI m l)), .own 40] 41), (40, .row tmE [] 60 2)]⟩) ((zc7 tmE 60 2 13 40 3 41 _ [yg (zm m l), yg (twos (prL m l).length), yg (leC m (rdI m l)), .own 40] rfl rfl rfl rfl).trans yl) ?_;apply yc;refine ye ?_;apply X.block
 refine y9 (ι := Nat) (fun (n : Nat) => [(4, .ptr 4 0 0 0), (13, .ptr 13 0 0 0), (10, itsA (leI m (rdI m l))), (14, iv (n : Int))]) (fun (n : Nat) => [(4, .box [.nils, .nils, .nils, .nils] 41), (13, .box [yg (zm m l), yg (twos (prL m l).length), yg (leC m (rdI m l)), .own 40] 41), (40, .row tmE (((leI m (rdI m l)).take n).map (fun x => x.Dur)) 60 2)]) (fun (n : Nat) => n <= (leI m (rdI m l)).length) (fun (n : Nat) => (leI m (rdI m l)).length - n) 0 (fun n hk => ?_) (h0 := by
  exact yx)
 apply yd;apply yb;refine yX ?_;refine yk rfl ?_ ?_<;>intro hc3
 ·obtain ⟨x, hx⟩ : ∃ x, (leI m (rdI m l))[n]? = some x := ⟨_, lgg (by omega)⟩;have hx2 : (leI m (rdI m l))[(n : Int).toNat]? = some x := by simpa using hx
  have hst := zmR hx;have htl : (((leI m (rdI m l)).take n).map (fun x => x.Dur)).length <= 1000 := by rw [List.length_map, List.length_take]; omega
  apply yf;apply yd;apply X.block;refine X.drawQ [⟨0, 58, .ptr 13 0 0 (0 + 3), []⟩, ⟨2, 60, itsA (leI m (rdI m l)), []⟩, ⟨3, 61, iv (n : Int), []⟩, ⟨4, 62, .ept itE x 0, [3, 2]⟩, ⟨5, 63, .ept itE x (0 + 6), [3, 2, 4]⟩, ⟨6, 64, tmA x.Dur, [3, 2, 4, 5]⟩, ⟨7, 65, tmsA [x.Dur], [3, 2, 4, 5, 6]⟩, ⟨9, 67, .ptr 13 0 0 (0 + 3), [8, 7, 6, 5, 4, 3, 2, 1, 0]⟩] [(1, [0]), (8, [3, 2, 4, 5, 6, 0, 7, 1]), (10, [7, 6, 5, 4, 3, 2, 1, 0, 8, 9])] (fun j => match j with | 0 => ⟨[(4, .ptr 4 0 0 0), (13, .ptr 13 0 0 0), (10, itsA (leI m (rdI m l))), (14, iv (n : Int))], [(4, .box [.nils, .nils, .nils, .nils] 41), (13, .box [yg (zm m l), yg (twos (prL m l).length), yg (leC m (rdI m l)), .own 40] 41), (40, .row tmE (((leI m (rdI m l)).take n).map (fun x => x.Dur)) 60 2)]⟩ | 1 => ⟨[(4, .ptr 4 0 0 0), (13, .ptr 13 0 0 0), (10, itsA (leI m (rdI m l))), (14, iv (n : Int)), (59, .own 40)], [(4, .box [.nils, .nils, .nils, .nils] 41), (13, .box [yg (zm m l), yg (twos (prL m l).length), yg (leC m (rdI m l)), .own 40] 41), (40, .row tmE (((leI m (rdI m l)).take n).map (fun x => x.Dur)) 60 2)]⟩ | 2 => ⟨[(4, .ptr 4 0 0 0), (13, .ptr 13 0 0 0), (10, itsA (leI m (rdI m l))), (14, iv (n : Int)), (66, .own 40)], [(4, .box [.nils, .nils, .nils, .nils] 41), (13, .box [yg (zm m l), yg (twos (prL m l).length), yg (leC m (rdI m l)), .any] 41), (40, .row tmE (((leI m (rdI m l)).take n).map (fun x => x.Dur) ++ [x.Dur]) 60 2)]⟩ | _ => ⟨[(4, .ptr 4 0 0 0), (13, .ptr 13 0 0 0), (10, itsA (leI m (rdI m l))), (14, iv (n : Int))], [(4, .box [.nils, .nils, .nils, .nils] 41), (13, .box [yg (zm m l), yg (twos (prL m l).length), yg (leC m (rdI m l)), .own 40] 41), (40, .row tmE (((leI m (rdI m l)).take n).map (fun x => x.Dur) ++ [x.Dur]) 60 2)]⟩) mo (by kernel_rfl) (zE (yl)) (fun j hj => ?_) (fun j c hc β hβ => ?_) ?_
  ·rcases j with _ | _ | _ | _ | j
   ·(iterate 3 refine ⟨.inr ⟨_, rfl, rfl, rfl, rfl, Pur.stepA yQ⟩, ?_⟩);refine ⟨.inr ⟨_, rfl, rfl, rfl, rfl, Pur.stepA (zU (enc := itE) (l := (leI m (rdI m l))) (u := x) rfl rfl SlK.h TyK.h (fun _ => rfl) (by omega) hx2)⟩, ?_⟩;(iterate 2 refine ⟨.inr ⟨_, rfl, rfl, rfl, rfl, Pur.stepA yQ⟩, ?_⟩);refine ⟨.inr ⟨_, rfl, rfl, rfl, rfl, zV (enc := tmE) (l := [x.Dur]) sl39 ty60 ze60 (by decide) rfl rfl rfl rfl (by decide) (by decide) (fun _ => rfl) rfl⟩, ?_⟩;exact yS
   ·refine ⟨.inl rfl, ?_⟩;(iterate 2 refine ⟨.inr ⟨_, rfl, rfl, rfl, rfl, Pur.stepA yQ⟩, ?_⟩);refine ⟨.inr ⟨_, rfl, rfl, rfl, rfl, Pur.stepA (zU (enc := itE) (l := (leI m (rdI m l))) (u := x) rfl rfl SlK.h TyK.h (fun _ => rfl) (by omega) hx2)⟩, ?_⟩;(iterate 2 refine ⟨.inr ⟨_, rfl, rfl, rfl, rfl, Pur.stepA yQ⟩, ?_⟩);refine ⟨.inr ⟨_, rfl, rfl, rfl, rfl, zV (enc := tmE) (l := [x.Dur]) sl39 ty60 ze60 (by decide) rfl rfl rfl rfl (by decide) (by decide) (fun _ => rfl) rfl⟩, ?_⟩;exact yS
   ·exact yS
   ·exact yS
   ·exact absurd (show j + 4 <= 3 from hj) (by omega)
  ·rcases j with _ | _ | _ | j
   ·obtain rfl : (1, [0]) = c := by injection hc
    refine yw rfl (yG (st0 := ⟨[(58, .ptr 13 0 0 (0 + 3)), (60, .ifb (β 2) (itsA (leI m (rdI m l)))), (61, .ifb (β 3) (iv (n : Int))), (62, .ifb (β 4) (.ept itE x 0)), (63, .ifb (β 5) (.ept itE x (0 + 6))), (64, .ifb (β 6) (tmA x.Dur)), (65, .ifb (β 7) (tmsA [x.Dur])), (67, .ifb (β 9) (.ptr 13 0 0 (0 + 3))), (4, .ptr 4 0 0 0), (13, .ptr 13 0 0 0), (10, itsA (leI m (rdI m l))), (14, iv (n : Int))], [(4, .box [.nils, .nils, .nils, .nils] 41), (13, .box [yg (zm m l), yg (twos (prL m l).length), yg (leC m (rdI m l)), .own 40] 41), (40, .row tmE (((leI m (rdI m l)).take n).map (fun x => x.Dur)) 60 2)]⟩) (yE) ?_);refine yq (yD (Pur.stepA yQ) rfl rfl) (yE)
   ·obtain rfl : (8, [3, 2, 4, 5, 6, 0, 7, 1]) = c := by injection hc
    refine yw rfl (yG (st0 := ⟨[(58, .ptr 13 0 0 (0 + 3)), (60, itsA (leI m (rdI m l))), (61, iv (n : Int)), (62, .ept itE x 0), (63, .ept itE x (0 + 6)), (64, tmA x.Dur), (65, tmsA [x.Dur]), (67, .ifb (β 9) (.ptr 13 0 0 (0 + 3))), (4, .ptr 4 0 0 0), (13, .ptr 13 0 0 0), (10, itsA (leI m (rdI m l))), (14, iv (n : Int)), (59, .own 40)], [(4, .box [.nils, .nils, .nils, .nils] 41), (13, .box [yg (zm m l), yg (twos (prL m l).length), yg (leC m (rdI m l)), .own 40] 41), (40, .row tmE (((leI m (rdI m l)).take n).map (fun x => x.Dur)) 60 2)]⟩) (yE) ?_);refine yq (zcr (l2 := [x.Dur]) rfl rfl rfl sl39 ti60 (by decide) (by decide) (fun _ => rfl) (fun _ => rfl) (by simp only [List.length_cons, List.length_nil]; omega) rfl) (yE)
   ·obtain rfl : (10, [7, 6, 5, 4, 3, 2, 1, 0, 8, 9]) = c := by injection hc
    refine yw rfl (yG (st0 := ⟨[(58, .ptr 13 0 0 (0 + 3)), (60, itsA (leI m (rdI m l))), (61, iv (n : Int)), (62, .ept itE x 0), (63, .ept itE x (0 + 6)), (64, tmA x.Dur), (65, tmsA [x.Dur]), (67, .ptr 13 0 0 (0 + 3)), (4, .ptr 4 0 0 0), (13, .ptr 13 0 0 0), (10, itsA (leI m (rdI m l))), (14, iv (n : Int)), (66, .own 40)], [(4, .box [.nils, .nils, .nils, .nils] 41), (13, .box [yg (zm m l), yg (twos (prL m l).length), yg (leC m (rdI m l)), .any] 41), (40, .row tmE (((leI m (rdI m l)).take n).map (fun x => x.Dur) ++ [x.Dur]) 60 2)]⟩) (yE) ?_);refine yq (zam rfl rfl rfl rfl TyK.h (by simp)) (yE)
   ·exact absurd hc (by simp)
  apply yc;refine yp ?_;refine yL (n + 1) (hI := yx)
 ·have hn : n = (leI m (rdI m l)).length := by omega
  subst hn;have hV : rdV m l = ⟨zm m l, twos (prL m l).length, leC m (rdI m l), ((leI m (rdI m l)).take (leI m (rdI m l)).length).map (fun x => x.Dur)⟩ := by rw [hV0, List.take_length]
  apply X.exit;apply yd;refine y3 (st' := ⟨[(4, .ptr 4 0 0 0), (13, .ptr 13 0 0 0)], [(4, .box [.nils, .nils, .nils, .nils] 41), (13, .box [yg (zm m l), yg (twos (prL m l).length), yg (leC m (rdI m l)), tmsA (((leI m (rdI m l)).take (leI m (rdI m l)).length).map (fun x => x.Dur))] 41)]⟩) ((Imp.freeze (k := 40) rfl).trans yl) ?_;apply yc;refine ya ?_;refine yi ?_;refine ye ?_;refine X.ret ?_;refine yF ty41 ?_ ?_;all_goals (first | exact congrArg (fun z => AV.agg (rdgE z)) hV.symm | exact congrArg (fun z => AV.int .i64 z) hE.symm)
end Go.Rse
namespace Go.Rse
open Go Go.Proofs
attribute [local irreducible] Pur yK yM Ex X Fn Imp LeV LeB FnO It yW FnW FnOW FnP FnD
attribute [local irreducible] rdE rdV
theorem zdG (m : Mn) (l : List Sg) (hl : l.length <= 1000) : Fn Tryz.prog 30 [mnA m, sgsA l] (.tup [tmsA (rdV m l).Durs, iv (rdE m l)]) := by
 refine Fn.go Tryz.func30 Tryz.ntmps30 (fun g w d => ?_);apply yb;refine yH ?_;iterate 2 refine ya ?_
 apply yn;iterate 2 refine ya ?_
 refine yr (zgf m l hl) ?_;iterate 3 refine ya ?_
 refine yJ ?_;refine yi ?_;refine ya ?_;apply yn;refine y4 ?_;refine X.ret ?_;refine yz ?_ ?_;all_goals (first | (with_reducible rfl) | rfl)
theorem zeW (m : Mn) (l : List Sg) (hl : l.length <= 1000) : Fn Tryz.prog 101 [mnA m, sgsA l] (.tup [tmsA (rdV m l).Durs, iv (rdE m l)]) := by
 refine Fn.go Tryz.func101 Tryz.ntmps101 (fun g w d => ?_);apply yb;refine yH ?_;iterate 2 refine ya ?_
 apply yn;iterate 2 refine ya ?_
 refine yr (zbZ m l hl) ?_;iterate 3 refine ya ?_
 refine yJ ?_;refine yi ?_;refine ya ?_;apply yn;refine y4 ?_;refine X.ret ?_;refine yz ?_ ?_;all_goals (first | (with_reducible rfl) | rfl)
theorem zfj {m : Mn} {l : List Sg} : (rdV m l).Durs.length <= l.length := by
 unfold rdV;split
 ·show ((leI m (rdI m l)).map _).length <= _;rw [List.length_map];exact Nat.le_trans (ziQ _ _) zgF
 ·simp
theorem zfk (m : Mn) (l : List Sg) (D : List Tm) (hl : l.length <= 1000) : Fn Tryz.prog 42 [mnA m, sgsA l, tmsA D] (.bool (decide (rdE m l = 0) && decide ((rdV m l).Durs = D))) := by
 have hr := zfj (m := m) (l := l);refine Fn.go Tryz.func42 Tryz.ntmps42 (fun g w d => ?_);apply yb;refine yH ?_;refine ya ?_;apply yn;iterate 2 refine ya ?_
 refine yr (zdG m l hl) ?_;iterate 5 refine ya ?_
 apply yn;iterate 2 refine ya ?_
 refine ExF.at 2 ?_;refine yC ?_;iterate 2 refine ExF.gi ?_
 refine ExF.cg (zbg (rdV m l).Durs D (by omega)) ?_;refine yA ?_;refine yh ?_;refine X.ret ?_;refine ym ?_;all_goals (first | rfl | (simp_all; done))
theorem zey (m : Mn) (l : List Sg) (D : List Tm) (hl : l.length <= 1000) : Fn Tryz.prog 43 [mnA m, sgsA l, tmsA D] (.bool (decide (rdE m l = 0) && decide ((rdV m l).Durs = D))) := by
 have hr := zfj (m := m) (l := l);refine Fn.go Tryz.func43 Tryz.ntmps43 (fun g w d => ?_);apply yb;refine yH ?_;refine ya ?_;apply yn;iterate 2 refine ya ?_
 refine yr (zeW m l hl) ?_;refine y4 ?_;apply yd;apply yb;iterate 2 refine ya ?_
 refine ExF.at 2 ?_;refine yC ?_;iterate 5 refine ExF.gi ?_
 refine yA ?_;refine ye ?_;refine yk rfl ?_ ?_<;>intro hc1
 ·have hD : (decide (rdE m l = 0) && decide ((rdV m l).Durs = D)) = false := by
   rw [Bool.and_eq_false_iff];by_cases h0 : rdE m l = 0
   ·right; rw [decide_eq_false_iff_not]; intro h; subst h; simp [h0] at hc1
   ·left; exact decide_eq_false h0
  apply yb;refine ye ?_;refine X.ret ?_;refine ym ?_;all_goals (rw [hD])
 have hq : rdE m l = 0 /\ (rdV m l).Durs.length = D.length := by
  by_cases h0 : rdE m l = 0
  ·exact ⟨h0, by simp [h0] at hc1; omega⟩
  ·simp [h0] at hc1
 obtain ⟨hq0, hlen⟩ := hq;apply yf;apply yd;apply yb;refine ye ?_;apply X.block
 refine y9 (ι := Nat) (fun (k : Nat) => [(2, tmsA D), (7, tmsA (rdV m l).Durs), (9, iv (k : Int))]) (fun (k : Nat) => []) (fun (k : Nat) => k <= (rdV m l).Durs.length /\ (rdV m l).Durs.take k = D.take k) (fun (k : Nat) => (rdV m l).Durs.length - k) 0 (fun k hk => ?_) (hJ := by
  exact ⟨by omega, by simp⟩)
 obtain ⟨hk1, hk2⟩ := hk;apply yd;apply yb;refine yX ?_;refine yk rfl ?_ ?_<;>intro hc2
 ·obtain ⟨x, hx⟩ : ∃ x, (rdV m l).Durs[k]? = some x := ⟨_, lgg (by omega)⟩;have hx2 : (rdV m l).Durs[(k : Int).toNat]? = some x := by simpa using hx
  obtain ⟨y, hy⟩ : ∃ y, D[k]? = some y := ⟨_, lgg (by omega)⟩;have hy2 : D[(k : Int).toNat]? = some y := by simpa using hy
  apply yf;apply yd;apply X.block;apply yd;refine zi [31,32,33,34,35,36,37,38,39] [0,0,3,7,0,0,48,112,255] mo ?_;iterate 9 refine yj ?_
  refine yR ?_;apply Ex.nil;refine yk rfl ?_ ?_<;>intro hc3
  ·have hD : (decide (rdE m l = 0) && decide ((rdV m l).Durs = D)) = false := by
    rw [Bool.and_eq_false_iff]; right; rw [decide_eq_false_iff_not]; intro h; rw [← h, hx] at hy; injection hy with hy; exact hc3 hy
   apply yb;refine ye ?_;refine X.ret ?_;refine ym ?_;all_goals (rw [hD])
  apply yf;apply yc;refine yp ?_
  refine yL (k + 1) (hJ := by
   exact ⟨by omega, by rw [← zcb hx, ← zcb hy, hk2, hc3]⟩)
 ·have hD : (decide (rdE m l = 0) && decide ((rdV m l).Durs = D)) = true := by
   have h1 : k = (rdV m l).Durs.length := by omega
   rw [Bool.and_eq_true_iff]; refine ⟨decide_eq_true hq0, ?_⟩;rw [decide_eq_true_iff]; subst h1; rw [List.take_length, hlen, List.take_length] at hk2; exact hk2
  apply X.exit;apply yb;refine ye ?_;refine X.ret ?_;refine ym ?_;all_goals (rw [hD])
end Go.Rse
namespace Go.Rse
open Go Go.Proofs
attribute [local irreducible] Pur yK yM Ex X Fn Imp LeV LeB FnO It yW FnW FnOW FnP FnD
def hfT (n : Int) : Tm := ⟨n / gI n 2, 2 / gI n 2⟩
theorem ztX {l : List Int} {k : Nat} {x : Int} (h : l[k]? = some x) : (l.take k).map hfT ++ [⟨x / gI x 2, 2 / gI x 2⟩] = (l.take (k + 1)).map hfT := by
 rw [List.take_add_one, h]; simp [hfT]
theorem zdH (l : List Int) (hl : l.length <= 1000) (hb : ∀ x ∈ l, 0 <= x /\ x <= 1000000) : Fn Tryz.prog 82 [yg l] (tmsA (l.map hfT)) := by
 refine Fn.go Tryz.func82 Tryz.ntmps82 (fun g w d => ?_);apply yb;refine ya ?_;apply yn;refine ye ?_;iterate 2 apply yd
 refine y3 (yZ tmE 60 2 3 30 rfl rfl) ?_;have hz0 : [] = (l.take 0).map hfT := by simp
 apply yc;refine ye ?_;apply X.block
 refine y9 (ι := Nat) (fun (k : Nat) => [(0, yg l), (3, .own 30), (4, iv (k : Int))]) (fun (k : Nat) => [(30, .row tmE ((l.take k).map hfT) 60 2)]) (fun (k : Nat) => k <= l.length) (fun (k : Nat) => l.length - k) 0 (fun k hk => ?_) (h0 := by
  exact yx)
 apply yd;apply yb;refine yX ?_;refine yk rfl ?_ ?_<;>intro hc1
 ·obtain ⟨x, hx⟩ : ∃ x, l[k]? = some x := ⟨_, lgg (by omega)⟩;have hx2 : l[(k : Int).toNat]? = some x := by simpa using hx
  have hxb := hb x (List.mem_of_getElem? hx);have hst := ztX hx;have htl : ((l.take k).map hfT).length <= 1000 := by rw [List.length_map, List.length_take]; omega
  apply yf;apply yd;apply X.block;apply yc;iterate 5 refine ya ?_
  refine yr (zhM x 2 (by omega) (by omega)) ?_;refine yO tmE [⟨_, _⟩] ?_;refine yi ?_;refine ye ?_;apply yc;refine yp ?_;refine yL (k + 1) (hI := yx)
 ·have hn : k = l.length := by omega
  subst hn;have hV : (l.take l.length).map hfT = l.map hfT := by rw [List.take_length]
  apply X.exit;apply yb;refine yh ?_;refine X.ret ?_;refine yu (Imp.freeze (k := 30) rfl) ?_;refine ym ?_;all_goals (exact congrArg (fun z => tmsA z) hV)
theorem zqr (a b : Rdg) : (decide (a.Dots = b.Dots) && decide (a.Minor = b.Minor) && decide (a.Choices = b.Choices) && decide (a.Durs = b.Durs)) = decide (a = b) := by
 cases a; cases b; simp [Bool.and_assoc]
theorem zcH (a b : Rdg) (h1 : a.Dots.length <= 1000000) (h2 : a.Minor.length <= 1000000) (h3 : a.Choices.length <= 1000000) (h4 : a.Durs.length <= 1000000) : Fn Tryz.prog 28 [rdgA a, rdgA b] (.bool (decide (a = b))) := by
 refine Fn.go Tryz.func28 Tryz.ntmps28 (fun g w d => ?_);apply yb;iterate 2 refine yH ?_
 refine ya ?_;apply yn;iterate 4 refine ya ?_
 refine yr (zas a.Dots b.Dots (by omega)) ?_;refine ExF.at 5 ?_;refine yC ?_;iterate 4 refine ExF.gi ?_
 refine ExF.cg (zas a.Minor b.Minor (by omega)) ?_;iterate 2 refine yC ?_
 iterate 4 refine ExF.gi ?_
 refine ExF.cg (zas a.Choices b.Choices (by omega)) ?_;iterate 2 refine yC ?_
 iterate 4 refine ExF.gi ?_
 refine ExF.cg (zah a.Durs b.Durs (by omega)) ?_;refine yA ?_;refine yh ?_;refine X.ret ?_;refine ym ?_;all_goals (exact congrArg AV.bool (zqr a b))
end Go.Rse
namespace Go.Rse
open Go Go.Proofs
def txT : List Int := [88, 76, 66, 83, 77, 81, 70, 90]
def txV (b : Int) : Nat -> Int
 | 0 => 0
 | k + 1 => if txT.getD k 0 = b then (k : Int) + 1 else txV b k
def txG (b : Int) (rest col : Bool) : Sg := if rest = true then { (default : Sg) with Kind := 2, Value := txV b 8 } else { (default : Sg) with Kind := 1, Value := txV b 8, Color := col }
def txS (S : List Sg × Bool × Bool) (b : Int) : List Sg × Bool × Bool :=
 if b = 114 then (S.1, true, S.2.2)
 else if b = 42 then (S.1, S.2.1, true)
 else if b = 46 then (S.1 ++ [{ (default : Sg) with Kind := 3 }], false, false)
 else if b = 32 then (S.1, false, false)
 else (S.1 ++ [txG b S.2.1 S.2.2], false, false)
def txB (s : ByteArray) : List Int := s.data.toList.map fun x => (x.toNat : Int)
theorem zr6 {s : ByteArray} {i : Nat} (h : i < s.size) : (txB s)[i]? = some ((s[i]'h).toNat : Int) := by
 have h2 : i < s.data.toList.length := by simpa using h
 unfold txB; rw [List.getElem?_map, lgg h2]; rfl
def txK (l : List Int) (n : Nat) : List Sg × Bool × Bool := (l.take n).foldl txS ([], false, false)
theorem zpN {l : List Int} {n : Nat} {b : Int} (h : l[n]? = some b) : txK l (n + 1) = txS (txK l n) b := by
 unfold txK;rw [List.take_add_one, h];simp [List.foldl_append]
theorem ziR (l : List Int) : ∀ n, (txK l n).1.length <= n
 | 0 => by simp [txK]
 | n + 1 => by
  have h0 := ziR l n;cases h : l[n]? with
  | none =>
   have : txK l (n + 1) = txK l n := by unfold txK; rw [List.take_add_one, h]; simp
   rw [this]; omega
  | some b =>
   rw [zpN h];unfold txS;split
   ·exact Nat.le_succ_of_le h0
   ·split
    ·exact Nat.le_succ_of_le h0
    ·split
     ·simp; omega
     ·split
      ·exact Nat.le_succ_of_le h0
      ·simp; omega
end Go.Rse
