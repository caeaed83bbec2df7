/-
  Walks.
-/
import Derived.Test.YtbopkhoalndflaaGreatDoorVRul6
import Derived.Test.YtbopkhoalndflaaGreatDoorVJWri4
set_option linter.all false
namespace Go.Rse
open Go Go.Proofs Go.Proofs.Tryz
section
attribute [local irreducible] Pur yu yq Ex X Fn Imp LeV LeB FnO It yD FnW FnOW FnP FnD
attribute [local irreducible] leE leC leI rdI rdE rdV ckD zm twos prL itmV itmE
set_option maxHeartbeats 4000000 in
def zlM (m : Mn) (l : List Sg) (hl : l.length <= 1000) : Fn prog 93 [mnA m, sgsA l] (.tup [rdgA (rdV m l), iv (rdE m l)]) := by
 have hR := zlJ m l hl;have xT := zkD (m := m) (l := l);have x4 := zkE m (rdI m l);have V : (twos (prL m l).length).length <= 1000 := by rw [zcC]; have := zeV m l; omega
 have x3 : (zm m l).length <= 4000000 := by have := zic m l; have := zgp m l; omega
 refine xV func93 ntmps93 (fun g w d => ?_);refine gc (zb8 m l hl) ?_;refine gd ?_ ?_<;>intro U
 ·have T := zxL U;obtain ⟨hE, Z⟩ := T;apply ye;iterate 2 refine ya ?_
  refine xY ?_;refine yh ?_;refine xU ?_;refine xQ (kL (ts := [(4, .ptr 4 0 0 0), (5, iv (ckD m l))]) (hs := [(4, .box [yc [], yc [], yc [], tmsA []] 75)]) ⟨⟨_, rfl, kB _⟩, ⟨_, rfl, kB _⟩, True.intro⟩ ⟨⟨_, rfl, LeB.box (.cons (kC _) (.cons (kC _) (.cons (kC _) (.cons (kC _) .nil))))⟩, True.intro⟩) ?_;refine yx ty75 ?_ ?_;all_goals (first | exact j5 (fun z => AV.agg (rdgE z)) Z.symm | exact j5 (fun z => AV.int .i64 z) hE.symm)
 have h0 : ckD m l = 0 := by omega
 rw [j4 h0, h0] at hR;have Q := zp0 h0
 have hI : Fn prog 138 [mnA m, sgsA l, yc (zm m l), yc (twos (prL m l).length)] (.tup [itsA (rdI m l), iv 0]) := by
  have h := zkv m l (zm m l) (twos (prL m l).length) hl V;rw [Q] at h; unfold rdI; exact h
 refine gc hR ?_;refine gd ?_ ?_<;>intro N
 ·exact absurd rfl N
 refine gc hI ?_;refine gd ?_ ?_<;>intro J
 ·exact absurd rfl J
 refine gc (zjv m (rdI m l) (by omega)) ?_;refine gd ?_ ?_<;>intro I
 ·have H := zxM h0 I;obtain ⟨hE, Z⟩ := H;apply ye;iterate 2 refine ya ?_
  refine xY ?_;refine yh ?_;refine xU ?_;refine xQ (kL (ts := [(4, .ptr 4 0 0 0), (5, iv (leE m (rdI m l)))]) (hs := [(4, .box [yc [], yc [], yc [], tmsA []] 75)]) ⟨⟨_, rfl, kB _⟩, ⟨_, rfl, kB _⟩, True.intro⟩ ⟨⟨_, rfl, LeB.box (.cons (kC _) (.cons (kC _) (.cons (kC _) (.cons (kC _) .nil))))⟩, True.intro⟩) ?_;refine yx ty75 ?_ ?_;all_goals (first | exact j5 (fun z => AV.agg (rdgE z)) Z.symm | exact j5 (fun z => AV.int .i64 z) hE.symm)
 have h2 : leE m (rdI m l) = 0 := by omega
 have G := zxN h0 h2;obtain ⟨hE, E⟩ := G;have x2 : [] = ((leI m (rdI m l)).take 0).map (fun x => x.Dur) := by simp
 apply yl;apply ye;iterate 4 refine ya ?_
 refine zh ?_;refine xY ?_;apply k9;iterate 2 apply yg
 refine xZ (st' := ⟨[(4, .ptr 4 0 0 0), (10, itsA (leI m (rdI m l))), (12, .ptr 12 0 0 0)], [(4, .box [.nils, .nils, .nils, .nils] 75), (12, .box [yc (zm m l), yc (twos (prL m l).length), yc (leC m (rdI m l)), .own 40] 75), (40, .row tmE [] 83 2)]⟩) ((zc0 tmE 83 2 12 40 3 75 _ [yc (zm m l), yc (twos (prL m l).length), yc (leC m (rdI m l)), .own 40] rfl rfl rfl rfl).trans yd) ?_;apply yi;refine yy ?_;apply xS;refine zq (fun n => [(4, .ptr 4 0 0 0), (12, .ptr 12 0 0 0), (60, itsA (leI m (rdI m l))), (61, iv (leI m (rdI m l)).length), (62, iv (n : Int))]) (fun n => [(4, .box [.nils, .nils, .nils, .nils] 75), (12, .box [yc (zm m l), yc (twos (prL m l).length), yc (leC m (rdI m l)), .own 40] 75), (40, .row tmE (((leI m (rdI m l)).take n).map (fun x => x.Dur)) 83 2)]) ((leI m (rdI m l)).length) (fun n hk => ?_);refine gd ?_ ?_<;>intro x1
 ·obtain ⟨x, hx⟩ : ∃ x, (leI m (rdI m l))[n]? = some x := ⟨_, lgg (by omega)⟩;have x0 : (leI m (rdI m l))[(n : Int).toNat]? = some x := by simpa using hx
  have w2 := zp1 hx;have v9 : (((leI m (rdI m l)).take n).map (fun x => x.Dur)).length <= 1000 := by rw [jU, jM]; omega
  refine gq ?_;refine yz tmE [⟨_, _⟩] ?_;refine gq ?_;refine yw (n + 1) (hI := yk)
 ·have hn : n = (leI m (rdI m l)).length := by omega
  subst hn;have Z : rdV m l = ⟨zm m l, twos (prL m l).length, leC m (rdI m l), ((leI m (rdI m l)).take (leI m (rdI m l)).length).map (fun x => x.Dur)⟩ := by rw [E, jH]
  apply k8;apply yg;refine xZ (st' := ⟨[(4, .ptr 4 0 0 0), (12, .ptr 12 0 0 0)], [(4, .box [.nils, .nils, .nils, .nils] 75), (12, .box [yc (zm m l), yc (twos (prL m l).length), yc (leC m (rdI m l)), tmsA (((leI m (rdI m l)).take (leI m (rdI m l)).length).map (fun x => x.Dur))] 75)]⟩) ((xP (k := 40) rfl).trans yd) ?_;refine gq ?_;refine yx ty75 ?_ ?_;all_goals (first | exact j5 (fun z => AV.agg (rdgE z)) Z.symm | exact j5 (fun z => AV.int .i64 z) hE.symm)
set_option maxHeartbeats 4000000 in
set_option maxRecDepth 9999 in
def zfO (m : Mn) (l : List Sg) (hl : l.length <= 1000) : Fn prog 136 [mnA m, sgsA l] (.tup [rdgA (rdV m l), iv (rdE m l)]) := by
 have hR := zfN m l hl;have x3 := zkD (m := m) (l := l);have x2 := zkE m (rdI m l);have U : (twos (prL m l).length).length <= 1000 := by rw [zcC]; have := zeV m l; omega
 have Q : (zm m l).length <= 4000000 := by have := zic m l; have := zgp m l; omega
 refine xV func136 ntmps136 (fun g w d => ?_);refine gc (zaL m l hl) ?_;refine gd ?_ ?_<;>intro N
 ·have J := zxL N;obtain ⟨hE, Z⟩ := J;apply ye;iterate 2 refine ya ?_
  refine xY ?_;refine yh ?_;refine xU ?_;refine xQ (kL (ts := [(4, .ptr 4 0 0 0), (5, iv (ckD m l))]) (hs := [(4, .box [yc [], yc [], yc [], tmsA []] 75)]) ⟨⟨_, rfl, kB _⟩, ⟨_, rfl, kB _⟩, True.intro⟩ ⟨⟨_, rfl, LeB.box (.cons (kC _) (.cons (kC _) (.cons (kC _) (.cons (kC _) .nil))))⟩, True.intro⟩) ?_;refine yx ty75 ?_ ?_;all_goals (first | exact j5 (fun z => AV.agg (rdgE z)) Z.symm | exact j5 (fun z => AV.int .i64 z) hE.symm)
 have h0 : ckD m l = 0 := by omega
 rw [j4 h0, h0] at hR;have I := zp0 h0
 have hI : Fn prog 184 [mnA m, sgsA l, yc (zm m l), yc (twos (prL m l).length)] (.tup [itsA (rdI m l), iv 0]) := by
  have h := zff m l (zm m l) (twos (prL m l).length) hl Q U;rw [I] at h; unfold rdI; exact h
 refine gc hR ?_;refine gc hI ?_;refine gc (zep m (rdI m l) (by omega)) ?_;refine gd ?_ ?_<;>intro G
 ·have E := zxM h0 G;obtain ⟨hE, Z⟩ := E;apply ye;iterate 2 refine ya ?_
  refine xY ?_;refine yh ?_;refine xU ?_;refine xQ (kL (ts := [(4, .ptr 4 0 0 0), (5, iv (leE m (rdI m l)))]) (hs := [(4, .box [yc [], yc [], yc [], tmsA []] 75)]) ⟨⟨_, rfl, kB _⟩, ⟨_, rfl, kB _⟩, True.intro⟩ ⟨⟨_, rfl, LeB.box (.cons (kC _) (.cons (kC _) (.cons (kC _) (.cons (kC _) .nil))))⟩, True.intro⟩) ?_;refine yx ty75 ?_ ?_;all_goals (first | exact j5 (fun z => AV.agg (rdgE z)) Z.symm | exact j5 (fun z => AV.int .i64 z) hE.symm)
 have h2 : leE m (rdI m l) = 0 := by omega
 have xT := zxN h0 h2;obtain ⟨hE, x4⟩ := xT;have x1 : [] = ((leI m (rdI m l)).take 0).map (fun x => x.Dur) := by simp
 apply yl;apply ye;iterate 4 refine ya ?_
 refine zh ?_;refine xY ?_;apply k9;iterate 2 apply yg
 refine xZ (st' := ⟨[(4, .ptr 4 0 0 0), (10, itsA (leI m (rdI m l))), (13, .ptr 13 0 0 0)], [(4, .box [.nils, .nils, .nils, .nils] 75), (13, .box [yc (zm m l), yc (twos (prL m l).length), yc (leC m (rdI m l)), .own 40] 75), (40, .row tmE [] 83 2)]⟩) ((zc0 tmE 83 2 13 40 3 75 _ [yc (zm m l), yc (twos (prL m l).length), yc (leC m (rdI m l)), .own 40] rfl rfl rfl rfl).trans yd) ?_;apply yi;refine yh ?_;apply xS;refine zq (fun n => [(4, .ptr 4 0 0 0), (13, .ptr 13 0 0 0), (10, itsA (leI m (rdI m l))), (14, iv (n : Int))]) (fun n => [(4, .box [.nils, .nils, .nils, .nils] 75), (13, .box [yc (zm m l), yc (twos (prL m l).length), yc (leC m (rdI m l)), .own 40] 75), (40, .row tmE (((leI m (rdI m l)).take n).map (fun x => x.Dur)) 83 2)]) ((leI m (rdI m l)).length) (fun n hk => ?_);refine gd ?_ ?_<;>intro x0
 ·obtain ⟨x, hx⟩ : ∃ x, (leI m (rdI m l))[n]? = some x := ⟨_, lgg (by omega)⟩;have V : (leI m (rdI m l))[(n : Int).toNat]? = some x := by simpa using hx
  have w2 := zp1 hx;have v9 : (((leI m (rdI m l)).take n).map (fun x => x.Dur)).length <= 1000 := by rw [jU, jM]; omega
  apply yl;apply yg;apply xS;refine X.drawQ [⟨0, 58, .ptr 13 0 0 (0 + 3), []⟩, ⟨2, 60, itsA (leI m (rdI m l)), []⟩, ⟨3, 61, iv (n : Int), []⟩, ⟨4, 62, .ept itE x 0, [3, 2]⟩, ⟨5, 63, .ept itE x (0 + 6), [3, 2, 4]⟩, ⟨6, 64, tmA x.Dur, [3, 2, 4, 5]⟩, ⟨7, 65, tmsA [x.Dur], [3, 2, 4, 5, 6]⟩, ⟨9, 67, .ptr 13 0 0 (0 + 3), [8, 7, 6, 5, 4, 3, 2, 1, 0]⟩] [(1, [0]), (8, [3, 2, 4, 5, 6, 0, 7, 1]), (10, [7, 6, 5, 4, 3, 2, 1, 0, 8, 9])] (fun j => match j with | 0 => ⟨[(4, .ptr 4 0 0 0), (13, .ptr 13 0 0 0), (10, itsA (leI m (rdI m l))), (14, iv (n : Int))], [(4, .box [.nils, .nils, .nils, .nils] 75), (13, .box [yc (zm m l), yc (twos (prL m l).length), yc (leC m (rdI m l)), .own 40] 75), (40, .row tmE (((leI m (rdI m l)).take n).map (fun x => x.Dur)) 83 2)]⟩ | 1 => ⟨[(4, .ptr 4 0 0 0), (13, .ptr 13 0 0 0), (10, itsA (leI m (rdI m l))), (14, iv (n : Int)), (59, .own 40)], [(4, .box [.nils, .nils, .nils, .nils] 75), (13, .box [yc (zm m l), yc (twos (prL m l).length), yc (leC m (rdI m l)), .own 40] 75), (40, .row tmE (((leI m (rdI m l)).take n).map (fun x => x.Dur)) 83 2)]⟩ | 2 => ⟨[(4, .ptr 4 0 0 0), (13, .ptr 13 0 0 0), (10, itsA (leI m (rdI m l))), (14, iv (n : Int)), (66, .own 40)], [(4, .box [.nils, .nils, .nils, .nils] 75), (13, .box [yc (zm m l), yc (twos (prL m l).length), yc (leC m (rdI m l)), .any] 75), (40, .row tmE (((leI m (rdI m l)).take n).map (fun x => x.Dur) ++ [x.Dur]) 83 2)]⟩ | _ => ⟨[(4, .ptr 4 0 0 0), (13, .ptr 13 0 0 0), (10, itsA (leI m (rdI m l))), (14, iv (n : Int))], [(4, .box [.nils, .nils, .nils, .nils] 75), (13, .box [yc (zm m l), yc (twos (prL m l).length), yc (leC m (rdI m l)), .own 40] 75), (40, .row tmE (((leI m (rdI m l)).take n).map (fun x => x.Dur) ++ [x.Dur]) 83 2)]⟩) mo (by kernel_rfl) (zl (yd)) (fun j hj => ?_) (fun j c hc β hβ => ?_) ?_
  ·rcases j with _ | _ | _ | _ | j
   ·iterate 3 refine ⟨.inr ⟨_, rfl, rfl, rfl, rfl, Pur.stepA yG⟩, ?_⟩
    refine ⟨.inr ⟨_, rfl, rfl, rfl, rfl, Pur.stepA (zaf (enc := itE) (l := (leI m (rdI m l))) (u := x) rfl rfl SlK.h TyK.h (fun _ => rfl) (by omega) V)⟩, ?_⟩
    iterate 2 refine ⟨.inr ⟨_, rfl, rfl, rfl, rfl, Pur.stepA yG⟩, ?_⟩
    refine ⟨.inr ⟨_, rfl, rfl, rfl, rfl, yo (enc := tmE) (l := [x.Dur]) sl50 ty83 ze83 (by decide) rfl rfl rfl rfl (by decide) (by decide) (fun _ => rfl) rfl⟩, ?_⟩
    exact yC
   ·refine ⟨.inl rfl, ?_⟩
    iterate 2 refine ⟨.inr ⟨_, rfl, rfl, rfl, rfl, Pur.stepA yG⟩, ?_⟩
    refine ⟨.inr ⟨_, rfl, rfl, rfl, rfl, Pur.stepA (zaf (enc := itE) (l := (leI m (rdI m l))) (u := x) rfl rfl SlK.h TyK.h (fun _ => rfl) (by omega) V)⟩, ?_⟩
    iterate 2 refine ⟨.inr ⟨_, rfl, rfl, rfl, rfl, Pur.stepA yG⟩, ?_⟩
    refine ⟨.inr ⟨_, rfl, rfl, rfl, rfl, yo (enc := tmE) (l := [x.Dur]) sl50 ty83 ze83 (by decide) rfl rfl rfl rfl (by decide) (by decide) (fun _ => rfl) rfl⟩, ?_⟩
    exact yC
   ·exact yC
   ·exact yC
   ·exact absurd (show j + 4 <= 3 from hj) (by omega)
  ·rcases j with _ | _ | _ | j
   ·obtain rfl : (1, [0]) = c := by injection hc
    refine yQ rfl (yV (st0 := ⟨[(58, .ptr 13 0 0 (0 + 3)), (60, .ifb (β 2) (itsA (leI m (rdI m l)))), (61, .ifb (β 3) (iv (n : Int))), (62, .ifb (β 4) (.ept itE x 0)), (63, .ifb (β 5) (.ept itE x (0 + 6))), (64, .ifb (β 6) (tmA x.Dur)), (65, .ifb (β 7) (tmsA [x.Dur])), (67, .ifb (β 9) (.ptr 13 0 0 (0 + 3))), (4, .ptr 4 0 0 0), (13, .ptr 13 0 0 0), (10, itsA (leI m (rdI m l))), (14, iv (n : Int))], [(4, .box [.nils, .nils, .nils, .nils] 75), (13, .box [yc (zm m l), yc (twos (prL m l).length), yc (leC m (rdI m l)), .own 40] 75), (40, .row tmE (((leI m (rdI m l)).take n).map (fun x => x.Dur)) 83 2)]⟩) (yK) ?_)
    refine yq.imp (yP (Pur.stepA yG) rfl rfl) (yK)
   ·obtain rfl : (8, [3, 2, 4, 5, 6, 0, 7, 1]) = c := by injection hc
    refine yQ rfl (yV (st0 := ⟨[(58, .ptr 13 0 0 (0 + 3)), (60, itsA (leI m (rdI m l))), (61, iv (n : Int)), (62, .ept itE x 0), (63, .ept itE x (0 + 6)), (64, tmA x.Dur), (65, tmsA [x.Dur]), (67, .ifb (β 9) (.ptr 13 0 0 (0 + 3))), (4, .ptr 4 0 0 0), (13, .ptr 13 0 0 0), (10, itsA (leI m (rdI m l))), (14, iv (n : Int)), (59, .own 40)], [(4, .box [.nils, .nils, .nils, .nils] 75), (13, .box [yc (zm m l), yc (twos (prL m l).length), yc (leC m (rdI m l)), .own 40] 75), (40, .row tmE (((leI m (rdI m l)).take n).map (fun x => x.Dur)) 83 2)]⟩) (yK) ?_)
    refine yq.imp (zB (l2 := [x.Dur]) rfl rfl rfl sl50 ti83 (by decide) (by decide) (fun _ => rfl) (fun _ => rfl) (by simp only [List.length_cons, List.length_nil]; omega) rfl) (yK)
   ·obtain rfl : (10, [7, 6, 5, 4, 3, 2, 1, 0, 8, 9]) = c := by injection hc
    refine yQ rfl (yV (st0 := ⟨[(58, .ptr 13 0 0 (0 + 3)), (60, itsA (leI m (rdI m l))), (61, iv (n : Int)), (62, .ept itE x 0), (63, .ept itE x (0 + 6)), (64, tmA x.Dur), (65, tmsA [x.Dur]), (67, .ptr 13 0 0 (0 + 3)), (4, .ptr 4 0 0 0), (13, .ptr 13 0 0 0), (10, itsA (leI m (rdI m l))), (14, iv (n : Int)), (66, .own 40)], [(4, .box [.nils, .nils, .nils, .nils] 75), (13, .box [yc (zm m l), yc (twos (prL m l).length), yc (leC m (rdI m l)), .any] 75), (40, .row tmE (((leI m (rdI m l)).take n).map (fun x => x.Dur) ++ [x.Dur]) 83 2)]⟩) (yK) ?_)
    refine yq.imp (zal rfl rfl rfl rfl TyK.h (by simp)) (yK)
   ·exact absurd hc (by simp)
  refine gq ?_;refine yw (n + 1) (hI := yk)
 ·have hn : n = (leI m (rdI m l)).length := by omega
  subst hn;have Z : rdV m l = ⟨zm m l, twos (prL m l).length, leC m (rdI m l), ((leI m (rdI m l)).take (leI m (rdI m l)).length).map (fun x => x.Dur)⟩ := by rw [x4, jH]
  apply k8;apply yg;refine xZ (st' := ⟨[(4, .ptr 4 0 0 0), (13, .ptr 13 0 0 0)], [(4, .box [.nils, .nils, .nils, .nils] 75), (13, .box [yc (zm m l), yc (twos (prL m l).length), yc (leC m (rdI m l)), tmsA (((leI m (rdI m l)).take (leI m (rdI m l)).length).map (fun x => x.Dur))] 75)]⟩) ((xP (k := 40) rfl).trans yd) ?_;refine gq ?_;refine yx ty75 ?_ ?_;all_goals (first | exact j5 (fun z => AV.agg (rdgE z)) Z.symm | exact j5 (fun z => AV.int .i64 z) hE.symm)
end
section
attribute [local irreducible] Pur yu yq Ex X Fn Imp LeV LeB FnO It yD FnW FnOW FnP FnD
attribute [local irreducible] rdE rdV
def zhg (m : Mn) (l : List Sg) (hl : l.length <= 1000) : Fn prog 30 [mnA m, sgsA l] (.tup [tmsA (rdV m l).Durs, iv (rdE m l)]) := by
 refine xV func30 ntmps30 (fun g w d => ?_);refine gc (zlM m l hl) ?_;refine yj ?_ ?_;all_goals (first | (with_reducible rfl) | rfl)
def zcE (m : Mn) (l : List Sg) (hl : l.length <= 1000) : Fn prog 92 [mnA m, sgsA l] (.tup [tmsA (rdV m l).Durs, iv (rdE m l)]) := by
 refine xV func92 ntmps92 (fun g w d => ?_);refine gc (zfO m l hl) ?_;refine yj ?_ ?_;all_goals (first | (with_reducible rfl) | rfl)
def znr {m : Mn} {l : List Sg} : (rdV m l).Durs.length <= l.length := by
 unfold rdV;split
 ·show ((leI m (rdI m l)).map _).length <= _;rw [jU];exact jQ (zkE _ _) zkD
 ·simp
def zgk (m : Mn) (l : List Sg) (D : List Tm) (hl : l.length <= 1000) : Fn prog 79 [mnA m, sgsA l, tmsA D] (.bool (decide (rdE m l = 0) && decide ((rdV m l).Durs = D))) := by
 have hr := znr (m := m) (l := l);refine xV func79 ntmps79 (fun g w d => ?_);refine gq ?_;refine yM (zhg m l hl) ?_;iterate 5 refine ya ?_
 apply yE;iterate 2 refine ya ?_
 refine xX 2 ?_;refine gq ?_;refine kK (zby (rdV m l).Durs D (by omega)) ?_;refine ge ?_;all_goals exact zR
def zch (m : Mn) (l : List Sg) (D : List Tm) (hl : l.length <= 1000) : Fn prog 82 [mnA m, sgsA l, tmsA D] (.bool (decide (rdE m l = 0) && decide ((rdV m l).Durs = D))) := by
 have hr := znr (m := m) (l := l);refine xV func82 ntmps82 (fun g w d => ?_);refine gq ?_;refine yM (zcE m l hl) ?_;iterate 2 refine ya ?_
 refine yy ?_;apply yg;apply ye;iterate 2 refine ya ?_
 refine xX 2 ?_;refine ym ?_;iterate 5 refine xW ?_
 refine gf ?_ ?_<;>intro Z
 ·have T : (decide (rdE m l = 0) && decide ((rdV m l).Durs = D)) = false := by
   rw [Bool.and_eq_false_iff];by_cases h0 : rdE m l = 0
   ·right; rw [jT]; intro h; subst h; simp [h0] at Z
   ·left; exact j9 h0
  refine gq ?_;all_goals rw [T]
 have I : rdE m l = 0 /\ (rdV m l).Durs.length = D.length := by
  by_cases h0 : rdE m l = 0
  ·exact ⟨h0, by simp [h0] at Z; omega⟩
  ·simp [h0] at Z
 obtain ⟨J, Q⟩ := I;apply yl;apply yg;apply ye;refine yh ?_;apply xS;refine zX (fun k => [(2, tmsA D), (7, tmsA (rdV m l).Durs), (9, iv (k : Int))]) (fun k => []) (fun k => k <= (rdV m l).Durs.length /\ (rdV m l).Durs.take k = D.take k) ((rdV m l).Durs.length) (fun k H => ?_) (hJ := by exact ⟨by omega, by simp⟩) (h0 := yd);obtain ⟨G, V⟩ := H;refine gd ?_ ?_<;>intro E
 ·obtain ⟨x, hx⟩ : ∃ x, (rdV m l).Durs[k]? = some x := ⟨_, lgg (by omega)⟩;have xT : (rdV m l).Durs[(k : Int).toNat]? = some x := by simpa using hx
  obtain ⟨y, U⟩ : ∃ y, D[k]? = some y := ⟨_, lgg (by omega)⟩;have x4 : D[(k : Int).toNat]? = some y := by simpa using U
  refine gq ?_;refine yW [31,32,33,34,35,36,37,38,39] [0,0,3,7,0,0,48,112,255] mo ?_;iterate 9 refine yb ?_
  refine yA ?_;refine gd ?_ ?_<;>intro N
  ·have T : (decide (rdE m l = 0) && decide ((rdV m l).Durs = D)) = false := by
    rw [Bool.and_eq_false_iff]; right; rw [jT]; intro h; rw [← h, hx] at U; injection U with U; exact N U
   refine gq ?_;all_goals rw [T]
  refine gq ?_;refine yw (k + 1) (hJ := by exact ⟨by omega, by rw [← zcF hx, ← zcF U, V, N]⟩)
 ·have T : (decide (rdE m l = 0) && decide ((rdV m l).Durs = D)) = true := by
   have h1 : k = (rdV m l).Durs.length := by omega
   rw [vJ]; refine ⟨jI J, ?_⟩;rw [w7]; subst h1; rw [jH, Q, jH] at V; exact V
  refine gq ?_;all_goals rw [T]
end
section
def zvz {α : Type} {enc : α -> List AV} (o : Option (List α)) : (nlA enc o).nm = true := by cases o <;> rfl
def zxS {m : Mn} {D : List Tm} {run : List Sg} (h : rdE m run = 0 /\ (rdV m run).Durs = D) : srV m D [] run = some run := by
 unfold srV reQ; rw [j4 (by simp [h.1, h.2])]
def zxT {m : Mn} {D : List Tm} {run : List Sg} (h : ¬ (rdE m run = 0 /\ (rdV m run).Durs = D)) : srV m D [] run = none := by
 unfold srV reQ; rw [j3]; intro e; simp only [j7, wA] at e; exact h e
def zns {m : Mn} {D : List Tm} {r : List (List (List Sg))} {run : List Sg} {F : List (List Sg)} (h : (F.take F.length).findSome? (fun f => srV m D r (run ++ f)) = none) : srV m D (F :: r) run = none := by
 rw [jH] at h; exact h
def zp6 {m : Mn} {D : List Tm} {C : List (List (List Sg))} {run : List Sg} (V : ∀ F ∈ C, F.length <= 32 /\ ∀ f ∈ F, 1 <= f.length /\ f.length <= 2) (h : 0 < run.length + C.length) : ∀ x, srV m D C run = some x -> x ≠ [] := fun x hx e => by
 have := zkF (n := 2) (fun F U => (V F U).2) hx;have Z := this.1;rw [e] at Z; simp only [wY] at Z; omega
def zxU {m : Mn} {l : List Bt} {h : Hb} (c : ¬ wcnE m l h = 0) : wrE m l h = wcnE m l h /\ wrV m l h = [] := by
 unfold wrE wrV; rw [j3 c, j3 c]; exact ⟨rfl, rfl⟩
def zxV {m : Mn} {l : List Bt} {h : Hb} (c : wcnE m l h = 0) (c2 : l.length = 0) : wrE m l h = 0 /\ wrV m l h = [] := by
 have e : l = [] := jN c2;unfold wrE wrV; rw [j4 c, j4 c, j4 e, j4 e]; exact ⟨rfl, rfl⟩
theorem zvA {m : Mn} {l : List Bt} {h : Hb} (c : wcnE m l h = 0) (c2 : ¬ l.length = 0) : wrE m l h = (if (srV m (durB l) (chV m l h) []).isSome then 0 else 18) /\ wrV m l h = (srV m (durB l) (chV m l h) []).getD [] := by
 have e : ¬ l = [] := fun e => c2 (by rw [e]; rfl)
 unfold wrE wrV wrO; rw [j4 c, j4 c, j3 e, j3 e]; exact ⟨rfl, rfl⟩
def zmy (m : Mn) (l : List Bt) (h : Hb) : ∀ F ∈ chV m l h, F.length <= 32 /\ ∀ f ∈ F, 1 <= f.length /\ f.length <= 2 := fun F Z => ⟨by
 unfold chV at Z;obtain ⟨b, -, rfl⟩ := jV.1 Z;exact zgn m b h, zp4 F Z⟩
def zim {m : Mn} {l : List Bt} {h : Hb} (c : wcnE m l h = 0) : l.length <= 12 := by
 unfold wcnE at c;split at c
 ·split at c
  ·exact absurd c (by decide)
  ·omega
 ·exact absurd c ‹_›
attribute [local irreducible] Pur yu yq Ex X Fn Imp LeV LeB FnO It yD FnW FnOW FnP FnD
attribute [local irreducible] wcE wcnE wcnV chV durB rdE rdV srV wrE wrV ckD rsL wisE wisB
set_option maxHeartbeats 1000000 in
def zin (m : Mn) (l : List Bt) (r : List Sg) (hl : l.length <= 1000000) (hr : r.length <= 1000) : Fn prog 20 [mnA m, btsA l, sgsA r] (.tup [.bool (wisB m l r), iv (wisE m l r)]) := by
 have H : [] = rsL (r.take 0) := by unfold rsL; rfl
 refine xV func20 ntmps20 (fun g w d => ?_);refine gc (zb1 m l (by omega)) ?_;refine gd ?_ ?_<;>intro V
 ·have U := zvL (r := r) V;obtain ⟨hE, Z⟩ := U;refine gq ?_;refine yj ?_ ?_;all_goals (first | exact zE Z | exact zE hE)
 have h0 : wcE m l = 0 := by omega
 refine gc (zb8 m r hr) ?_;refine gd ?_ ?_<;>intro T
 ·have Q := zvM h0 T;obtain ⟨hE, Z⟩ := Q;refine gq ?_;refine yj ?_ ?_;all_goals (first | exact zE Z | exact zE hE)
 have N := zvN h0 (show ckD m r = 0 by omega);obtain ⟨hE, Z⟩ := N;apply yl;apply ye;refine yh ?_;iterate 2 apply yg
 refine xZ (yF za6 4 1 10 30 rfl rfl) ?_;apply yi;refine yy ?_;apply xS;refine zq (fun k => [(1, btsA l), (2, sgsA r), (3, .ptr 3 0 0 0), (10, .own 30), (26, sgsA r), (27, iv (r.length : Int)), (28, iv (k : Int))]) (fun k => [(3, .box (mnE m) 23), (30, .row za6 (rsL (r.take k)) 4 1)]) r.length (fun k hk => ?_);refine gd ?_ ?_<;>intro G
 ·obtain ⟨s, hs⟩ : ∃ s, r[k]? = some s := ⟨_, lgg (by omega)⟩;have E : r[(k : Int).toNat]? = some s := by simpa using hs
  have xT : (rsL (r.take k)).length <= 1000 := jQ (zhR _) (by rw [jM]; omega);refine gd ?_ ?_<;>intro J
  ·have I := zg4 hs J;refine gq ?_;refine yz za6 [decide (s.Kind = 2)] ?_;refine gq ?_;refine yw (k + 1) (hI := yk)
  ·have I := zgC hs (by omega);refine gq ?_;refine yw (k + 1) (hI := yk)
 ·obtain rfl : k = r.length := by omega
  have x4 : rsL (r.take r.length) = rsL r := by rw [jH]
  apply k8;apply yg;refine xZ (st' := ⟨[(1, btsA l), (2, sgsA r), (3, .ptr 3 0 0 0), (10, .own 30)], [(3, .box (mnE m) 23), (30, .row za6 (rsL r) 4 1)]⟩) yk ?_;refine xZ (st' := ⟨[(1, btsA l), (2, sgsA r), (3, .ptr 3 0 0 0), (10, zaQ (rsL r))], [(3, .box (mnE m) 23)]⟩) ((xP (k := 30) rfl).trans yd) ?_;refine gc (zad l (rsL r) (by omega)) ?_;refine yW [6,7,45,46,47,48,49,50,51,52] [0,1,3,3,3,19,63,127,255,511] mo ?_;iterate 2 refine yb ?_
  iterate 3 refine k6 ?_
  refine kJ (zgy l (by omega)) ?_;refine kJ (zgk m r (durB l) hr) ?_;iterate 3 refine yb ?_
  refine yA ?_;refine gq ?_;refine yj ?_ ?_;all_goals (first | exact zE Z | exact zE hE)
set_option maxHeartbeats 2000000 in
def zio (m : Mn) (D : List Tm) (n : Nat) (C : List (List (List Sg))) (run : List Sg) (hn : C.length = n) (Q : ∀ F ∈ C, F.length <= 32 /\ ∀ f ∈ F, 1 <= f.length /\ f.length <= 2) (hr : run.length + 2 * C.length <= 1000) : Fn prog 84 [mnA m, tmsA D, chsA C, sgsA run] (nlA sgE (srV m D C run)) := by
 induction n using Nat.strongRecOn generalizing C run
 rename_i n ih;refine xV func84 ntmps84 (fun g w d => ?_) (hnm := zvz _);refine gd ?_ ?_<;>intro N
 ·obtain rfl : C = [] := jN (by omega);refine gc (zgk m run D (by omega)) ?_;refine gd ?_ ?_<;>intro U
  ·have Z := zxS U;refine gq ?_;all_goals (rw [Z]; first | done | rfl)
  have Z := zxT (m := m) (run := run) (D := D) (by rcases U with e | e; exact fun q => e q.1; exact fun q => e q.2);refine gq ?_;all_goals (rw [Z]; first | done | rfl)
 obtain ⟨F, r, rfl⟩ : ∃ F r, C = F :: r := by cases C with | nil => exact absurd rfl N | cons F r => exact ⟨F, r, rfl⟩
 have x2 : (F :: r)[(0 : Int).toNat]? = some F := rfl;have J := Q F (by simp);apply yl;iterate 2 apply yg
 refine zx9 3 1000003 (fun Ad c I => ?_);apply yi;iterate 2 refine ya ?_
 refine yy ?_;apply xS;refine zX (fun k => [(1, tmsA D), (2, chsA (F :: r)), (3, .val (.slice Ad run.length c)), (4, .ptr 4 0 0 0), (22, zb7 F), (23, iv (F.length : Int)), (24, iv (k : Int))]) (fun k => [(4, .box (mnE m) 23), (1000003, .hold [.slice Ad run.length c] [sgsA run])]) (fun k => k <= F.length /\ (F.take k).findSome? (fun f => srV m D r (run ++ f)) = none) F.length (fun k hk => ?_) (hJ := by exact ⟨by omega, by simp⟩);obtain ⟨x1, V⟩ := hk;refine gd ?_ ?_<;>intro x0
 ·obtain ⟨f, hf⟩ : ∃ f, F[k]? = some f := ⟨_, lgg (by omega)⟩;have w2 : F[(k : Int).toNat]? = some f := by simpa using hf
  have H := J.2 f (j6 hf);have E := zp6 (m := m) (D := D) (C := r) (run := run ++ f) (fun G hG => Q G (u5 _ hG)) (by rw [jJ]; omega);have xT : run.length + f.length <= 4000000000 := by simp only [wB] at hr; omega
  refine gq ?_;refine yW [28,29,30,31,32,33,34,35,36,37,38,39] [0,0,0,4,0,0,32,0,128,496,0,2032,4095,8191] mo ?_;iterate 3 refine yb ?_
  first
   | refine ChM.step rfl rfl rfl (xO (zO rfl rfl rfl zrh ty56 (by omega) (by omega))) rfl ?_
   | refine ChM.step rfl rfl rfl (xO (zar rfl rfl zrh ty56 (fun _ => rfl) (by omega) (by omega))) rfl ?_
  iterate 2 refine yb ?_
  refine yb ?_ (hs := by exact zjU rfl sl33);refine yb ?_;refine yb ?_ (hs := by exact zjU rfl sl33);refine ChM.step rfl rfl rfl (xO (zvP rfl rfl rfl sl33 ty90 I)) rfl ?_;refine yb ?_;refine ChM.step rfl rfl rfl (zjn (k := 39) (kh := 1000003) rfl rfl rfl sl33 ti90 (by decide) (by decide) (fun _ => rfl) H.1 xT) rfl ?_;refine yA ?_;refine kG (xP (k := 39) rfl) ?_;refine yM (ih r.length (by rw [← hn]; simp) r (run ++ f) rfl (fun G hG => Q G (u5 _ hG)) (by simp only [jJ, wB] at *; omega)) ?_;refine ya ?_;apply yE;refine ya ?_;refine zY (zvQ Tryz.underlying33 rfl E) rfl ?_;refine gd ?_ ?_<;>intro T
  ·have x4 := wK.1 T;obtain ⟨x, hx⟩ := x4;have Z : srV m D (F :: r) run = srV m D r (run ++ f) := by rw [hx]; exact zlL (by rw [zno hf V, hx])
   refine gq ?_;all_goals (rw [Z]; first | done | rfl)
  have x3 : (F.take (k + 1)).findSome? (fun f => srV m D r (run ++ f)) = none := by rw [zno hf V]; simpa using T
  refine gq ?_;refine yw (k + 1) (hJ := by exact ⟨by omega, x3⟩) (hI := yk)
 ·obtain rfl : k = F.length := by omega
  have Z := zns V;refine gq ?_;all_goals (rw [Z]; first | done | rfl)
set_option maxHeartbeats 1000000 in
def za4 (m : Mn) (l : List Bt) (h : Hb) (hl : l.length <= 4000000000) : Fn prog 24 [mnA m, btsA l, hbA h] (.tup [sgsA (wrV m l h), iv (wrE m l h)]) := by
 have U := zgB m l h;have T := zmy m l h;refine xV func24 ntmps24 (fun g w d => ?_);refine gc (zfr m l h hl) ?_;refine gd ?_ ?_<;>intro N
 ·have J := zxU N;obtain ⟨hE, Z⟩ := J;apply ye;refine yy ?_;refine xU ?_;refine xQ (yd (ts := [(6, sgsA []), (7, iv (wcnE m l h))]) (hs := [])) ?_;refine yj ?_ ?_;all_goals (first | exact zE Z | exact zE hE | (rw [Z, V]; rfl) | (rw [hE, V]; rfl))
 have h0 : wcnE m l h = 0 := by omega
 have xT := zim h0;refine gd ?_ ?_<;>intro x4
 ·have I := zxV h0 (by omega);obtain ⟨hE, Z⟩ := I;apply ye;refine yL ?_;refine xU ?_;refine xQ (yd (ts := [(6, sgsA []), (7, iv 0)]) (hs := [])) ?_;refine yj ?_ ?_;all_goals (first | exact zE Z | exact zE hE | (rw [Z, V]; rfl) | (rw [hE, V]; rfl))
 have H := zvA h0 (show ¬ l.length = 0 by omega);obtain ⟨hE, Z⟩ := H;have G := zp6 (m := m) (D := durB l) (run := []) T (by rw [U]; simp only [wY]; omega);refine gq ?_;refine yW [10,24,25,26,27,28,29,30,31] [0,0,2,0,0,0,62,127,255] mo ?_;iterate 2 refine yb ?_
 refine yH (zgy l hl) ?_;iterate 3 refine yb ?_
 refine yH (zhA m l h (by omega)) ?_;refine ChM.step rfl rfl rfl (zao rfl rfl rfl (.cons (kB _) (.cons (kB _) (.cons (kB _) (.cons (kC _) .nil)))) (zio m (durB l) _ (chV m l h) [] rfl T (by rw [U]; simp only [wY]; omega))) rfl ?_;refine yb ?_;refine yA ?_;apply k9;apply yg;apply ye;refine ya ?_;refine zY (zya Tryz.underlying33 rfl G) rfl ?_;refine gd ?_ ?_<;>intro Q
 ·have V : srV m (durB l) (chV m l h) [] = none := by simpa using Q
  apply ye;refine yL ?_;refine xU ?_;refine xQ (yd (ts := [(6, sgsA []), (7, iv 18)]) (hs := [])) ?_;refine yj ?_ ?_;all_goals (first | exact zE Z | exact zE hE | (rw [Z, V]; rfl) | (rw [hE, V]; rfl))
 have E := wK.1 (show (srV m (durB l) (chV m l h) []).isSome = true by simpa using Q);obtain ⟨x, hx⟩ := E;refine gq ?_;refine yj ?_ ?_;all_goals (first | (rw [Z, hx]; rfl) | (rw [hE, hx]; rfl))
end
end Go.Rse
