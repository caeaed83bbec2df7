/-
  Walks.
-/
import Derived.Test.YtkpbljifckjeoaaGreatDoorYJPan
set_option linter.unusedSimpArgs false
set_option linter.unusedVariables false
namespace Go.Rse
open Go Go.Proofs
section
attribute [local irreducible] Pur yr yw Ex X Fn Imp LeV LeB FnO It yx FnW FnOW FnP FnD
attribute [local irreducible] cuV cuE apV apE leE leC leI lvN lvF ckM perfL ckIE ckIX
set_option maxHeartbeats 4000000 in
theorem zhX (m : Mn) (l : List Ite) (hl : l.length <= 1000) : Fn Tryz.prog 73 [mnA m, itsA l] (.tup [yf (leC m l), itsA (leI m l), iv (leE m l)]) := by
 have hp4 := zpg m;refine zm2 (ts := [(0, mnA m), (1, itsA l)]) (n := 48) (by kernel_rfl) Tryz.func73 rfl Tryz.ntmps73 rfl rfl (by simp) (fun g w d => ?_);refine XW.seq ?_;apply ym;refine zaS ?_;iterate 3 refine zB ?_
 apply Ex.nil;refine XW.seq ?_;refine gq ?_;refine yb (zel m) ?_;iterate 4 refine ya ?_
 refine Ex.mo ?_;apply Ex.nil;refine XW.seq ?_;refine gd ?_ ?_<;>intro hc1
 ·have hZ1 := zxz (l := l) hc1;obtain ⟨hE, hV, hW⟩ := hZ1;apply yl;refine X.drawQ [⟨0, 19, iv (ckM m), []⟩] [(1, []), (2, [1]), (3, [1, 2, 0])] (fun j => match j with | 0 => ⟨[(4, .ptr 4 0 0 0), (5, .ptr 5 0 0 0), (6, .ptr 6 0 0 0)], [(4, .box [.nils] 59), (5, .box [.nils] 114), (6, .box [iv (ckM m)] 28)]⟩ | 1 => ⟨[(4, .ptr 4 0 0 0), (5, .ptr 5 0 0 0), (6, .ptr 6 0 0 0)], [(4, .box [.nils] 59), (5, .box [.nils] 114), (6, .box [iv (ckM m)] 28)]⟩ | 2 => ⟨[(4, .ptr 4 0 0 0), (5, .ptr 5 0 0 0), (6, .ptr 6 0 0 0)], [(4, .box [.nils] 59), (5, .box [.nils] 114), (6, .box [iv (ckM m)] 28)]⟩ | _ => ⟨[(4, .ptr 4 0 0 0), (5, .ptr 5 0 0 0), (6, .ptr 6 0 0 0)], [(4, .box [.nils] 59), (5, .box [.nils] 114), (6, .box [iv (ckM m)] 28)]⟩) mo (by kernel_rfl) (zbb (ye)) (fun j hj => ?_) (fun j c hc β hβ => ?_) ?_
  ·rcases j with _ | _ | _ | _ | j
   ·exact ze
   ·exact ze
   ·exact ze
   ·exact ze
   ·exact absurd (show j + 4 <= 3 from hj) (by omega)
  ·rcases j with _ | _ | _ | j
   ·obtain rfl : (1, []) = c := by injection hc
    refine yh rfl (yD (st0 := ⟨[(19, .ifb (β 0) (iv (ckM m))), (4, .ptr 4 0 0 0), (5, .ptr 5 0 0 0), (6, .ptr 6 0 0 0)], [(4, .box [.nils] 59), (5, .box [.nils] 114), (6, .box [iv (ckM m)] 28)]⟩) (yy) ?_);refine yw.imp (zah rfl rfl rfl rfl TyK.h (by simp)) (yy)
   ·obtain rfl : (2, [1]) = c := by injection hc
    refine yh rfl (yD (st0 := ⟨[(19, .ifb (β 0) (iv (ckM m))), (4, .ptr 4 0 0 0), (5, .ptr 5 0 0 0), (6, .ptr 6 0 0 0)], [(4, .box [.nils] 59), (5, .box [.nils] 114), (6, .box [iv (ckM m)] 28)]⟩) (yy) ?_);refine yw.imp (zah rfl rfl rfl rfl TyK.h (by simp)) (yy)
   ·obtain rfl : (3, [1, 2, 0]) = c := by injection hc
    refine yh rfl (yD (st0 := ⟨[(19, iv (ckM m)), (4, .ptr 4 0 0 0), (5, .ptr 5 0 0 0), (6, .ptr 6 0 0 0)], [(4, .box [.nils] 59), (5, .box [.nils] 114), (6, .box [iv (ckM m)] 28)]⟩) (yy) ?_);refine yw.imp (zah rfl rfl rfl rfl TyK.h (by simp)) (yy)
   ·exact absurd hc (by simp)
  refine X.ret ?_;refine zoO.plain (rv := [.cell 4 59, .cell 5 114, .cell 6 28]) rfl rfl (RetQ.ret (.many (by decide) (.cons (.cellS rfl rfl rfl TyK.h (by rw [hV]; exact LeV.nils _)) (.cons (.cellS rfl rfl rfl TyK.h (by rw [hW]; exact LeV.nils _)) (.cons (.cellS rfl rfl rfl TyK.h (LeV.eq (by rw [hE]))) .nil)))))
 have hm : ckM m = 0 := by omega
 rw [show (if ckM m = 0 then perfL m else []) = perfL m from if_pos hm, hm];apply yp;refine XW.seq ?_;refine gq ?_;refine yb (zen l (by omega)) ?_;refine gd ?_ ?_<;>intro hc2
 ·have hZ2 := zxA hm hc2;obtain ⟨hE, hV, hW⟩ := hZ2;apply yg;refine ya ?_;iterate 3 refine Ex.mo ?_
  apply Ex.nil;refine X.ret ?_;refine zoO.plain (rv := [.cell 4 59, .cell 5 114, .cell 6 28]) rfl rfl (RetQ.ret (.many (by decide) (.cons (.cellS rfl rfl rfl TyK.h (by rw [hV]; exact LeV.nils _)) (.cons (.cellS rfl rfl rfl TyK.h (by rw [hW]; exact LeV.nils _)) (.cons (.cellS rfl rfl rfl TyK.h (LeV.eq (by rw [hE]))) .nil)))))
 have hi : ckIE l = 0 := by omega
 apply yp;refine XW.defer 9 (fun us => ?_);refine XW.of ?_;apply yl;refine X.drawQ [⟨0, 29, mnA m, []⟩, ⟨1, 30, yf (perfL m), []⟩, ⟨2, 31, itsA l, []⟩] [(3, [2]), (4, [2, 3, 1, 0]), (5, [2, 3, 1, 0, 4]), (6, [4, 2, 1, 0, 3, 5])] (fun j => match j with | 0 => ⟨[(1, itsA l), (2, .ptr 2 0 0 0), (7, yf (perfL m)), (4, .ptr 4 0 0 0), (5, .ptr 5 0 0 0), (6, .ptr 6 0 0 0)], [(9, .hold us.toList [.ptr 4 0 0 0, .ptr 5 0 0 0, .ptr 6 0 0 0]), (4, .box [.nils] 59), (5, .box [.nils] 114), (6, .box [iv 0] 28), (2, .box (mnE m) 32)]⟩ | 1 => ⟨[(1, itsA l), (2, .ptr 2 0 0 0), (7, yf (perfL m)), (4, .ptr 4 0 0 0), (5, .ptr 5 0 0 0), (6, .ptr 6 0 0 0), (32, .own 32)], [(9, .hold us.toList [.ptr 4 0 0 0, .ptr 5 0 0 0, .ptr 6 0 0 0]), (4, .box [.nils] 59), (5, .box [.nils] 114), (6, .box [iv 0] 28), (2, .box (mnE m) 32), (32, .row itE l 120 12)]⟩ | 2 => ⟨[(1, itsA l), (2, .ptr 2 0 0 0), (7, yf (perfL m)), (4, .ptr 4 0 0 0), (5, .ptr 5 0 0 0), (6, .ptr 6 0 0 0), (33, .agg [iv m.Max, iv m.Mod, iv m.Tem, iv m.Pro, yf (perfL m), .own 32, .nils])], [(9, .hold us.toList [.ptr 4 0 0 0, .ptr 5 0 0 0, .ptr 6 0 0 0]), (4, .box [.nils] 59), (5, .box [.nils] 114), (6, .box [iv 0] 28), (2, .box (mnE m) 32), (32, .row itE l 120 12)]⟩ | 3 => ⟨[(1, itsA l), (2, .ptr 2 0 0 0), (7, yf (perfL m)), (4, .ptr 4 0 0 0), (5, .ptr 5 0 0 0), (6, .ptr 6 0 0 0), (34, .ptr 34 0 0 0)], [(9, .hold us.toList [.ptr 4 0 0 0, .ptr 5 0 0 0, .ptr 6 0 0 0]), (4, .box [.nils] 59), (5, .box [.nils] 114), (6, .box [iv 0] 28), (2, .box (mnE m) 32), (34, .box [iv m.Max, iv m.Mod, iv m.Tem, iv m.Pro, yf (perfL m), .own 32, .nils] 158), (32, .row itE l 120 12)]⟩ | _ => ⟨[(1, itsA l), (2, .ptr 2 0 0 0), (7, yf (perfL m)), (4, .ptr 4 0 0 0), (5, .ptr 5 0 0 0), (6, .ptr 6 0 0 0), (10, .ptr 34 0 0 0)], [(9, .hold us.toList [.ptr 4 0 0 0, .ptr 5 0 0 0, .ptr 6 0 0 0]), (4, .box [.nils] 59), (5, .box [.nils] 114), (6, .box [iv 0] 28), (2, .box (mnE m) 32), (34, .box [iv m.Max, iv m.Mod, iv m.Tem, iv m.Pro, yf (perfL m), .own 32, .nils] 158), (32, .row itE l 120 12)]⟩) mo (by kernel_rfl) (zbb (ye)) (fun j hj => ?_) (fun j c hc β hβ => ?_) ?_
 ·rcases j with _ | _ | _ | _ | _ | j
  ·exact ze
  ·exact ze
  ·exact ze
  ·exact ze
  ·exact ze
  ·exact absurd (show j + 5 <= 4 from hj) (by omega)
 ·rcases j with _ | _ | _ | _ | j
  ·obtain rfl : (3, [2]) = c := by injection hc
   refine yh rfl (yD (st0 := ⟨[(29, .ifb (β 0) (mnA m)), (30, .ifb (β 1) (yf (perfL m))), (31, itsA l), (1, itsA l), (2, .ptr 2 0 0 0), (7, yf (perfL m)), (4, .ptr 4 0 0 0), (5, .ptr 5 0 0 0), (6, .ptr 6 0 0 0)], [(9, .hold us.toList [.ptr 4 0 0 0, .ptr 5 0 0 0, .ptr 6 0 0 0]), (4, .box [.nils] 59), (5, .box [.nils] 114), (6, .box [iv 0] 28), (2, .box (mnE m) 32)]⟩) (yy) ?_);refine yw.imp (ztn [(5, 32)] (zP l (by omega))) (yy)
  ·obtain rfl : (4, [2, 3, 1, 0]) = c := by injection hc
   refine yh rfl (yD (st0 := ⟨[(29, mnA m), (30, yf (perfL m)), (31, itsA l), (1, itsA l), (2, .ptr 2 0 0 0), (7, yf (perfL m)), (4, .ptr 4 0 0 0), (5, .ptr 5 0 0 0), (6, .ptr 6 0 0 0), (32, .own 32)], [(9, .hold us.toList [.ptr 4 0 0 0, .ptr 5 0 0 0, .ptr 6 0 0 0]), (4, .box [.nils] 59), (5, .box [.nils] 114), (6, .box [iv 0] 28), (2, .box (mnE m) 32), (32, .row itE l 120 12)]⟩) (yy) ?_);refine yw.imp (yo (Pur.stepA y9) rfl rfl) (yy)
  ·obtain rfl : (5, [2, 3, 1, 0, 4]) = c := by injection hc
   refine yh rfl (yD (st0 := ⟨[(29, mnA m), (30, yf (perfL m)), (31, itsA l), (1, itsA l), (2, .ptr 2 0 0 0), (7, yf (perfL m)), (4, .ptr 4 0 0 0), (5, .ptr 5 0 0 0), (6, .ptr 6 0 0 0), (33, .agg [iv m.Max, iv m.Mod, iv m.Tem, iv m.Pro, yf (perfL m), .own 32, .nils])], [(9, .hold us.toList [.ptr 4 0 0 0, .ptr 5 0 0 0, .ptr 6 0 0 0]), (4, .box [.nils] 59), (5, .box [.nils] 114), (6, .box [iv 0] 28), (2, .box (mnE m) 32), (32, .row itE l 120 12)]⟩) (yy) ?_);refine yw.imp (yo (zfJ (k := 34) rfl rfl) rfl rfl) (yy)
  ·obtain rfl : (6, [4, 2, 1, 0, 3, 5]) = c := by injection hc
   refine yh rfl (yD (st0 := ⟨[(29, mnA m), (30, yf (perfL m)), (31, itsA l), (1, itsA l), (2, .ptr 2 0 0 0), (7, yf (perfL m)), (4, .ptr 4 0 0 0), (5, .ptr 5 0 0 0), (6, .ptr 6 0 0 0), (34, .ptr 34 0 0 0)], [(9, .hold us.toList [.ptr 4 0 0 0, .ptr 5 0 0 0, .ptr 6 0 0 0]), (4, .box [.nils] 59), (5, .box [.nils] 114), (6, .box [iv 0] 28), (2, .box (mnE m) 32), (34, .box [iv m.Max, iv m.Mod, iv m.Tem, iv m.Pro, yf (perfL m), .own 32, .nils] 158), (32, .row itE l 120 12)]⟩) (yy) ?_);refine yw.imp (yo (Pur.stepA y9) rfl rfl) (yy)
  ·exact absurd hc (by simp)
 iterate 2 apply yl
 refine X.imp (st' := ⟨[(4, .ptr 4 0 0 0), (5, .ptr 5 0 0 0), (6, .ptr 6 0 0 0), (10, .ptr 34 0 0 0)], [(9, .hold us.toList [.ptr 4 0 0 0, .ptr 5 0 0 0, .ptr 6 0 0 0]), (4, .box [.nils] 59), (5, .box [.nils] 114), (6, .box [iv 0] 28), (34, .box [iv m.Max, iv m.Mod, iv m.Tem, iv m.Pro, yf (perfL m), itsA l, .own 40] 158), (40, .row intE [] 3 1)]⟩) (((zhN intE 3 1 34 40 6 158 _ [iv m.Max, iv m.Mod, iv m.Tem, iv m.Pro, yf (perfL m), .own 32, .own 40] rfl rfl rfl rfl).trans (Imp.freeze (k := 32) rfl)).trans ye) ?_;apply ym;refine yu ?_;have hz1 : [] = (lvN m (perfL m) l 0).1 := by unfold lvN; rfl
 have hb0 : ([iv m.Max, iv m.Mod, iv m.Tem, iv m.Pro, yf (perfL m), itsA l, .own 40] : List AV) = [iv m.Max, iv m.Mod, iv m.Tem, iv m.Pro, yf (perfL m), itsA (lvN m (perfL m) l 0).2, .own 40] := by unfold lvN; rfl
 apply X.block;refine zus (ι := List Int × Nat) (fun p => [(4, .ptr 4 0 0 0), (5, .ptr 5 0 0 0), (6, .ptr 6 0 0 0), (10, .ptr 34 0 0 0), (11, .fn 100 [])]) (fun p => [(9, .hold us.toList [.ptr 4 0 0 0, .ptr 5 0 0 0, .ptr 6 0 0 0]), (4, .box [.nils] 59), (5, .box [.nils] 114), (6, .box [iv 0] 28), (34, .box [iv m.Max, iv m.Mod, iv m.Tem, iv m.Pro, yf p.1, itsA (lvN m (perfL m) l p.2).2, .own 40] 158), (40, .row intE (lvN m (perfL m) l p.2).1 3 1)]) (fun p => (perfL m).drop p.2 = p.1 /\ LvJ m (perfL m) l p.2) (fun p => p.1.length) (perfL m, 0) (fun p => [(4, .ptr 4 0 0 0), (5, .ptr 5 0 0 0), (6, .ptr 6 0 0 0), (10, .ptr 34 0 0 0), (11, .nilf)]) (fun p => [(9, .hold us.toList [.ptr 4 0 0 0, .ptr 5 0 0 0, .ptr 6 0 0 0]), (4, .box [.nils] 59), (5, .box [.nils] 114), (6, .box [iv 0] 28), (34, .box [iv m.Max, iv m.Mod, iv m.Tem, iv m.Pro, yf [], itsA (lvN m (perfL m) l p.2).2, .own 40] 158), (40, .row intE (lvN m (perfL m) l p.2).1 3 1)]) (fun p => p.2 = (perfL m).length /\ LvJ m (perfL m) l p.2) (fun p hk => ?_) (fun p hk => ?_) ⟨rfl, zub _ _ _⟩ yd
 ·obtain ⟨hn, hJ⟩ := hk;have hd := zxC hm hi hJ hn;obtain ⟨hE, hV, hW⟩ := hd;apply yl;apply yg;refine ya ?_;refine ya (hs := by exact zkL ⟨_, _, _, Tryz.underlying160⟩ rfl) ?_;refine gd ?_ ?_<;>intro hc
  ·cases hc
  apply X.exit;apply yl;refine X.imp (st' := ⟨[(4, .ptr 4 0 0 0), (5, .ptr 5 0 0 0), (6, .ptr 6 0 0 0), (10, .ptr 34 0 0 0)], [(9, .hold us.toList [.ptr 4 0 0 0, .ptr 5 0 0 0, .ptr 6 0 0 0]), (4, .box [.nils] 59), (5, .box [.nils] 114), (6, .box [iv 0] 28), (34, .box [iv m.Max, iv m.Mod, iv m.Tem, iv m.Pro, yf [], itsA (lvN m (perfL m) l p.2).2, yf (lvN m (perfL m) l p.2).1] 158)]⟩) ((Imp.freeze (k := 40) rfl).trans ye) ?_;refine X.drawQ [⟨0, 40, .ptr 34 0 0 0, []⟩, ⟨1, 41, .ptr 34 0 0 0, [0]⟩, ⟨2, 42, .ptr 34 0 0 (0 + 6), [0, 1]⟩, ⟨3, 43, yf (lvN m (perfL m) l p.2).1, [0, 1, 2]⟩, ⟨4, 44, .ptr 34 0 0 0, []⟩, ⟨5, 45, .ptr 34 0 0 0, [4]⟩, ⟨6, 46, .ptr 34 0 0 (0 + 5), [4, 5]⟩, ⟨7, 47, itsA (lvN m (perfL m) l p.2).2, [4, 5, 6]⟩] [(8, [2, 1, 0, 3]), (9, [6, 5, 4, 3, 2, 1, 0, 8, 7]), (10, [8, 7, 6, 5, 4, 3, 2, 1, 0, 9])] (fun j => match j with | 0 => ⟨[(4, .ptr 4 0 0 0), (5, .ptr 5 0 0 0), (6, .ptr 6 0 0 0), (10, .ptr 34 0 0 0)], [(9, .hold us.toList [.ptr 4 0 0 0, .ptr 5 0 0 0, .ptr 6 0 0 0]), (4, .box [.nils] 59), (5, .box [.nils] 114), (6, .box [iv 0] 28), (34, .box [iv m.Max, iv m.Mod, iv m.Tem, iv m.Pro, yf [], itsA (lvN m (perfL m) l p.2).2, yf (lvN m (perfL m) l p.2).1] 158)]⟩ | 1 => ⟨[(4, .ptr 4 0 0 0), (5, .ptr 5 0 0 0), (6, .ptr 6 0 0 0), (10, .ptr 34 0 0 0)], [(9, .hold us.toList [.ptr 4 0 0 0, .ptr 5 0 0 0, .ptr 6 0 0 0]), (4, .box [yf (lvN m (perfL m) l p.2).1] 59), (5, .box [.nils] 114), (6, .box [iv 0] 28), (34, .box [iv m.Max, iv m.Mod, iv m.Tem, iv m.Pro, yf [], itsA (lvN m (perfL m) l p.2).2, yf (lvN m (perfL m) l p.2).1] 158)]⟩ | 2 => ⟨[(4, .ptr 4 0 0 0), (5, .ptr 5 0 0 0), (6, .ptr 6 0 0 0), (10, .ptr 34 0 0 0)], [(9, .hold us.toList [.ptr 4 0 0 0, .ptr 5 0 0 0, .ptr 6 0 0 0]), (4, .box [yf (lvN m (perfL m) l p.2).1] 59), (5, .box [itsA (lvN m (perfL m) l p.2).2] 114), (6, .box [iv 0] 28), (34, .box [iv m.Max, iv m.Mod, iv m.Tem, iv m.Pro, yf [], itsA (lvN m (perfL m) l p.2).2, yf (lvN m (perfL m) l p.2).1] 158)]⟩ | _ => ⟨[(4, .ptr 4 0 0 0), (5, .ptr 5 0 0 0), (6, .ptr 6 0 0 0), (10, .ptr 34 0 0 0)], [(9, .hold us.toList [.ptr 4 0 0 0, .ptr 5 0 0 0, .ptr 6 0 0 0]), (4, .box [yf (lvN m (perfL m) l p.2).1] 59), (5, .box [itsA (lvN m (perfL m) l p.2).2] 114), (6, .box [iv 0] 28), (34, .box [iv m.Max, iv m.Mod, iv m.Tem, iv m.Pro, yf [], itsA (lvN m (perfL m) l p.2).2, yf (lvN m (perfL m) l p.2).1] 158)]⟩) mo (by kernel_rfl) (zbb (ye)) (fun j hj => ?_) (fun j c hc β hβ => ?_) ?_
  ·rcases j with _ | _ | _ | _ | j
   ·exact ze
   ·exact ze
   ·exact ze
   ·exact ze
   ·exact absurd (show j + 4 <= 3 from hj) (by omega)
  ·rcases j with _ | _ | _ | j
   ·obtain rfl : (8, [2, 1, 0, 3]) = c := by injection hc
    refine yh rfl (yD (st0 := ⟨[(40, .ptr 34 0 0 0), (41, .ptr 34 0 0 0), (42, .ptr 34 0 0 (0 + 6)), (43, yf (lvN m (perfL m) l p.2).1), (44, .ifb (β 4) (.ptr 34 0 0 0)), (45, .ifb (β 5) (.ptr 34 0 0 0)), (46, .ifb (β 6) (.ptr 34 0 0 (0 + 5))), (47, .ifb (β 7) (itsA (lvN m (perfL m) l p.2).2)), (4, .ptr 4 0 0 0), (5, .ptr 5 0 0 0), (6, .ptr 6 0 0 0), (10, .ptr 34 0 0 0)], [(9, .hold us.toList [.ptr 4 0 0 0, .ptr 5 0 0 0, .ptr 6 0 0 0]), (4, .box [.nils] 59), (5, .box [.nils] 114), (6, .box [iv 0] 28), (34, .box [iv m.Max, iv m.Mod, iv m.Tem, iv m.Pro, yf [], itsA (lvN m (perfL m) l p.2).2, yf (lvN m (perfL m) l p.2).1] 158)]⟩) (yy) ?_);refine yw.imp (zah rfl rfl rfl rfl TyK.h (by simp)) (yy)
   ·obtain rfl : (9, [6, 5, 4, 3, 2, 1, 0, 8, 7]) = c := by injection hc
    refine yh rfl (yD (st0 := ⟨[(40, .ptr 34 0 0 0), (41, .ptr 34 0 0 0), (42, .ptr 34 0 0 (0 + 6)), (43, yf (lvN m (perfL m) l p.2).1), (44, .ptr 34 0 0 0), (45, .ptr 34 0 0 0), (46, .ptr 34 0 0 (0 + 5)), (47, itsA (lvN m (perfL m) l p.2).2), (4, .ptr 4 0 0 0), (5, .ptr 5 0 0 0), (6, .ptr 6 0 0 0), (10, .ptr 34 0 0 0)], [(9, .hold us.toList [.ptr 4 0 0 0, .ptr 5 0 0 0, .ptr 6 0 0 0]), (4, .box [yf (lvN m (perfL m) l p.2).1] 59), (5, .box [.nils] 114), (6, .box [iv 0] 28), (34, .box [iv m.Max, iv m.Mod, iv m.Tem, iv m.Pro, yf [], itsA (lvN m (perfL m) l p.2).2, yf (lvN m (perfL m) l p.2).1] 158)]⟩) (yy) ?_);refine yw.imp (zah rfl rfl rfl rfl TyK.h (by simp)) (yy)
   ·obtain rfl : (10, [8, 7, 6, 5, 4, 3, 2, 1, 0, 9]) = c := by injection hc
    refine yh rfl (yD (st0 := ⟨[(40, .ptr 34 0 0 0), (41, .ptr 34 0 0 0), (42, .ptr 34 0 0 (0 + 6)), (43, yf (lvN m (perfL m) l p.2).1), (44, .ptr 34 0 0 0), (45, .ptr 34 0 0 0), (46, .ptr 34 0 0 (0 + 5)), (47, itsA (lvN m (perfL m) l p.2).2), (4, .ptr 4 0 0 0), (5, .ptr 5 0 0 0), (6, .ptr 6 0 0 0), (10, .ptr 34 0 0 0)], [(9, .hold us.toList [.ptr 4 0 0 0, .ptr 5 0 0 0, .ptr 6 0 0 0]), (4, .box [yf (lvN m (perfL m) l p.2).1] 59), (5, .box [itsA (lvN m (perfL m) l p.2).2] 114), (6, .box [iv 0] 28), (34, .box [iv m.Max, iv m.Mod, iv m.Tem, iv m.Pro, yf [], itsA (lvN m (perfL m) l p.2).2, yf (lvN m (perfL m) l p.2).1] 158)]⟩) (yy) ?_);refine yw.imp (zah rfl rfl rfl rfl TyK.h (by simp)) (yy)
   ·exact absurd hc (by simp)
  refine X.ret ?_;refine zeu (kD := 9) (rv := [.cell 4 59, .cell 5 114, .cell 6 28]) [(2000004, 4), (2000005, 5), (2000006, 6)] (ze1 (lvN m (perfL m) l p.2).1 (lvN m (perfL m) l p.2).2) (.inl ⟨rfl, rfl⟩) rfl rfl Imp.refl rfl (LeL.refl _) (.many (by decide) (.cons (.cellS rfl rfl rfl TyK.h (LeV.eq (congrArg (fun z => yf z) hV))) (.cons (.cellS rfl rfl rfl TyK.h (LeV.eq (congrArg (fun z => itsA z) hW))) (.cons (.cellS rfl rfl rfl TyK.h (LeV.eq (congrArg (fun z => AV.int .i64 z) hE.symm))) .nil)))) rfl rfl rfl (by repeat' (first | exact True.intro | refine And.intro ⟨_, _, rfl, rfl, LeB.refl _, rfl⟩ ?_)) rfl rfl rfl
 ·obtain ⟨hdr, hJ⟩ := hk;apply yl;apply yg;refine ya ?_;refine ya (hs := by exact zmK ⟨_, _, _, Tryz.underlying160⟩ rfl) ?_;refine gd ?_ ?_<;>intro hc
  ·apply yp;apply X.block;obtain ⟨rs, n⟩ := p;have hlen : (lvN m (perfL m) l n).2.length = l.length := hJ.len;have hcho : (lvN m (perfL m) l n).1.length <= n * (2 * l.length + 2) := hJ.cho;have hle : n <= (perfL m).length := hJ.le;rcases rs with _ | ⟨k, r⟩
   ·refine gq ?_;refine zaF [(2000000, 34), (2000001, 40)] (zgR m (lvN m (perfL m) l n).2 (lvN m (perfL m) l n).1) ?_;refine yu ?_
    have hn : n = (perfL m).length := by
     have h1 := congrArg List.length hdr;rw [List.length_drop] at h1;have h2 : (perfL m).length - n = 0 := h1;have h3 : n <= (perfL m).length := hle;omega
    exact Or.inr ⟨([], n), ye, hn, hJ⟩
   ·have hk : (perfL m)[n]? = some k := by
     have h1 := congrArg (fun z => z[0]?) hdr;simpa using h1
    have hdr2 : (perfL m).drop (n + 1) = r := by
     have h1 := congrArg (fun z => z.drop 1) hdr;simpa using h1
    have hkb := zr2 hk;have hl2 : (lvN m (perfL m) l n).2.length <= 1000 := by rw [hlen]; exact hl
    have hC2 : (lvN m (perfL m) l n).1.length <= 1000000 := by
     have h1 : n * (2 * l.length + 2) <= 4 * (2 * l.length + 2) := Nat.mul_le_mul_right _ (Nat.le_trans hle hp4);have h2 := Nat.le_trans hcho h1;omega
    by_cases h0 : cuE m k (lvN m (perfL m) l n).2 = 0
    ·have hQ := zlq (m := m) (l := l) hk;obtain ⟨hs1, hs2⟩ := hQ;have hbx : ([iv m.Max, iv m.Mod, iv m.Tem, iv m.Pro, yf r, itsA (apV m k (lvN m (perfL m) l n).2 (cuV m k (lvN m (perfL m) l n).2)), .own 41] : List AV) = [iv m.Max, iv m.Mod, iv m.Tem, iv m.Pro, yf r, itsA (lvN m (perfL m) l (n + 1)).2, .own 41] := by rw [hs2]
     refine gq ?_;refine zaF [(2000000, 34), (2000001, 40), (2000012, 41)] (zhT m (lvN m (perfL m) l n).2 (lvN m (perfL m) l n).1 k r hkb hl2 hC2 h0) ?_;refine yu ?_;refine Or.inl ⟨(r, n + 1), (ye (ts := [(4, .ptr 4 0 0 0), (5, .ptr 5 0 0 0), (6, .ptr 6 0 0 0), (10, .ptr 34 0 0 0), (11, .fn 100 [])]) (hs := [(9, .hold us.toList [.ptr 4 0 0 0, .ptr 5 0 0 0, .ptr 6 0 0 0]), (4, .box [.nils] 59), (5, .box [.nils] 114), (6, .box [iv 0] 28), (34, .box [iv m.Max, iv m.Mod, iv m.Tem, iv m.Pro, yf r, itsA (apV m k (lvN m (perfL m) l n).2 (cuV m k (lvN m (perfL m) l n).2)), .own 41] 158), (41, .row intE ((lvN m (perfL m) l n).1 ++ cuV m k (lvN m (perfL m) l n).2) 3 1)])).trans ((yd (ts := [(4, .ptr 4 0 0 0), (5, .ptr 5 0 0 0), (6, .ptr 6 0 0 0), (10, .ptr 34 0 0 0), (11, .fn 100 [])]) (hs := [(9, .hold us.toList [.ptr 4 0 0 0, .ptr 5 0 0 0, .ptr 6 0 0 0]), (4, .box [.nils] 59), (5, .box [.nils] 114), (6, .box [iv 0] 28), (34, .box [iv m.Max, iv m.Mod, iv m.Tem, iv m.Pro, yf r, itsA (lvN m (perfL m) l (n + 1)).2, .own 41] 158), (41, .row intE (lvN m (perfL m) l (n + 1)).1 3 1)])).trans ((Imp.mv 41 40 rfl rfl).trans ye)), ⟨hdr2, hJ.s hk h0⟩, by simp⟩
    ·have hd := zxB hm hi hJ hk h0;obtain ⟨hE, hV, hW⟩ := hd;apply ym;(iterate 2 refine ya ?_);refine ztj [(2000000, 34), (2000001, 40)] (zgc m (lvN m (perfL m) l n).2 (lvN m (perfL m) l n).1 k r hkb hl2 hC2 h0) ?_;refine zeu (kD := 9) (rv := [.cell 4 59, .cell 5 114, .cell 6 28]) [(2000004, 4), (2000005, 5), (2000006, 6)] (ze2 (cuE m k (lvN m (perfL m) l n).2)) (.inr (.inr ⟨_, rfl, rfl⟩)) rfl rfl Imp.refl rfl (LeL.refl _) (.many (by decide) (.cons (.cellS rfl rfl rfl TyK.h (by rw [hV]; exact LeV.nils _)) (.cons (.cellS rfl rfl rfl TyK.h (by rw [hW]; exact LeV.nils _)) (.cons (.cellS rfl rfl rfl TyK.h (LeV.eq (congrArg (fun z => AV.int .i64 z) hE.symm))) .nil)))) rfl rfl rfl (by repeat' (first | exact True.intro | refine And.intro ⟨_, _, rfl, rfl, LeB.refl _, rfl⟩ ?_)) rfl rfl rfl
  ·cases hc
end
section
attribute [local irreducible] Pur yr yw Ex X Fn Imp LeV LeB FnO It yx FnW FnOW FnP FnD
attribute [local irreducible] leE leC leI rdI rdE rdV ckD z7 twos prL itmV itmE
set_option maxHeartbeats 4000000 in
theorem zjX (m : Mn) (l : List Sg) (hl : l.length <= 1000) : Fn Tryz.prog 56 [mnA m, sgsA l] (.tup [rdgA (rdV m l), iv (rdE m l)]) := by
 have hR := zjQ m l hl;have hil := zlr (m := m) (l := l);have hLl := zlt m (rdI m l);have hpl : (twos (prL m l).length).length <= 1000 := by rw [zdt]; have := zi2 m l; omega
 have hdl : (z7 m l).length <= 4000000 := by have := zjP m l; have := zjZ m l; omega
 refine Fn.go Tryz.func56 Tryz.ntmps56 (fun g w d => ?_);refine gq ?_;refine yb (zal m l hl) ?_;refine gd ?_ ?_<;>intro hc1
 ·have hZ1 := zxD hc1;obtain ⟨hE, hV⟩ := hZ1;apply yg;iterate 2 refine ya ?_
  refine Ex.mo ?_;refine yu ?_;refine X.ret ?_;refine RetQ.imp (Imp.of (ts := [(4, .ptr 4 0 0 0), (5, iv (ckD m l))]) (hs := [(4, .box [yf [], yf [], yf [], tmsA []] 97)]) ⟨⟨_, rfl, LeV.refl _⟩, ⟨_, rfl, LeV.refl _⟩, True.intro⟩ ⟨⟨_, rfl, LeB.box (.cons (LeV.nils _) (.cons (LeV.nils _) (.cons (LeV.nils _) (.cons (LeV.nils _) .nil))))⟩, True.intro⟩) ?_;refine yH ty97 ?_ ?_;all_goals (first | exact congrArg (fun z => AV.agg (rdgE z)) hV.symm | exact congrArg (fun z => AV.int .i64 z) hE.symm)
 have h0 : ckD m l = 0 := by omega
 rw [if_pos h0, h0] at hR;have hit := zrb h0
 have hI : Fn Tryz.prog 72 [mnA m, sgsA l, yf (z7 m l), yf (twos (prL m l).length)] (.tup [itsA (rdI m l), iv 0]) := by
  have h := ziV m l (z7 m l) (twos (prL m l).length) hl hpl;rw [hit] at h; unfold rdI; exact h
 refine gq ?_;refine yb hR ?_;refine gd ?_ ?_<;>intro hc2
 ·exact absurd rfl hc2
 refine gq ?_;refine yb hI ?_;refine gd ?_ ?_<;>intro hc3
 ·exact absurd rfl hc3
 refine gq ?_;refine yb (zhX m (rdI m l) (by omega)) ?_;refine gd ?_ ?_<;>intro hc4
 ·have hZ2 := zxE h0 hc4;obtain ⟨hE, hV⟩ := hZ2;apply yg;iterate 2 refine ya ?_
  refine Ex.mo ?_;refine yu ?_;refine X.ret ?_;refine RetQ.imp (Imp.of (ts := [(4, .ptr 4 0 0 0), (5, iv (leE m (rdI m l)))]) (hs := [(4, .box [yf [], yf [], yf [], tmsA []] 97)]) ⟨⟨_, rfl, LeV.refl _⟩, ⟨_, rfl, LeV.refl _⟩, True.intro⟩ ⟨⟨_, rfl, LeB.box (.cons (LeV.nils _) (.cons (LeV.nils _) (.cons (LeV.nils _) (.cons (LeV.nils _) .nil))))⟩, True.intro⟩) ?_;refine yH ty97 ?_ ?_;all_goals (first | exact congrArg (fun z => AV.agg (rdgE z)) hV.symm | exact congrArg (fun z => AV.int .i64 z) hE.symm)
 have h2 : leE m (rdI m l) = 0 := by omega
 have hZ3 := zxF h0 h2;obtain ⟨hE, hV0⟩ := hZ3;have hz0 : [] = ((leI m (rdI m l)).take 0).map (fun x => x.Dur) := by simp
 apply yp;apply yg;iterate 4 refine ya ?_
 refine zB ?_;refine Ex.mo ?_;apply Ex.nil;iterate 2 apply yl
 refine X.imp (st' := ⟨[(4, .ptr 4 0 0 0), (10, itsA (leI m (rdI m l))), (12, .ptr 12 0 0 0)], [(4, .box [.nils, .nils, .nils, .nils] 97), (12, .box [yf (z7 m l), yf (twos (prL m l).length), yf (leC m (rdI m l)), .own 40] 97), (40, .row tmE [] 25 2)]⟩) ((zhN tmE 25 2 12 40 3 97 _ [yf (z7 m l), yf (twos (prL m l).length), yf (leC m (rdI m l)), .own 40] rfl rfl rfl rfl).trans ye) ?_;refine gq ?_
 refine yS (ι := Nat) (fun (n : Nat) => [(4, .ptr 4 0 0 0), (12, .ptr 12 0 0 0), (60, itsA (leI m (rdI m l))), (61, iv (leI m (rdI m l)).length), (62, iv (n : Int))]) (fun (n : Nat) => [(4, .box [.nils, .nils, .nils, .nils] 97), (12, .box [yf (z7 m l), yf (twos (prL m l).length), yf (leC m (rdI m l)), .own 40] 97), (40, .row tmE (((leI m (rdI m l)).take n).map (fun x => x.Dur)) 25 2)]) (fun (n : Nat) => n <= (leI m (rdI m l)).length) (fun (n : Nat) => (leI m (rdI m l)).length - n) 0 (fun n hk => ?_) (h0 := by
  exact yd)
 refine gd ?_ ?_<;>intro hc5
 ·obtain ⟨x, hx⟩ : ∃ x, (leI m (rdI m l))[n]? = some x := ⟨_, lgg (by omega)⟩;have hx2 : (leI m (rdI m l))[(n : Int).toNat]? = some x := by simpa using hx
  have hst := zr6 hx;have htl : (((leI m (rdI m l)).take n).map (fun x => x.Dur)).length <= 1000 := by rw [List.length_map, List.length_take]; omega
  refine gq ?_;refine yJ tmE [⟨_, _⟩] ?_;refine gq ?_;refine yz (n + 1) (hI := yd)
 ·have hn : n = (leI m (rdI m l)).length := by omega
  subst hn;have hV : rdV m l = ⟨z7 m l, twos (prL m l).length, leC m (rdI m l), ((leI m (rdI m l)).take (leI m (rdI m l)).length).map (fun x => x.Dur)⟩ := by rw [hV0, List.take_length]
  apply X.exit;apply yl;refine X.imp (st' := ⟨[(4, .ptr 4 0 0 0), (12, .ptr 12 0 0 0)], [(4, .box [.nils, .nils, .nils, .nils] 97), (12, .box [yf (z7 m l), yf (twos (prL m l).length), yf (leC m (rdI m l)), tmsA (((leI m (rdI m l)).take (leI m (rdI m l)).length).map (fun x => x.Dur))] 97)]⟩) ((Imp.freeze (k := 40) rfl).trans ye) ?_;refine gq ?_;refine yH ty97 ?_ ?_;all_goals (first | exact congrArg (fun z => AV.agg (rdgE z)) hV.symm | exact congrArg (fun z => AV.int .i64 z) hE.symm)
end
section
attribute [local irreducible] Pur yr yw Ex X Fn Imp LeV LeB FnO It yx FnW FnOW FnP FnD
attribute [local irreducible] rdE rdV
theorem zdv (m : Mn) (l : List Sg) (hl : l.length <= 1000) : Fn Tryz.prog 34 [mnA m, sgsA l] (.tup [tmsA (rdV m l).Durs, iv (rdE m l)]) := by
 refine Fn.go Tryz.func34 Tryz.ntmps34 (fun g w d => ?_);refine gq ?_;refine yb (zjX m l hl) ?_;refine gq ?_;refine yi ?_ ?_;all_goals (first | (with_reducible rfl) | rfl)
theorem zpJ {m : Mn} {l : List Sg} : (rdV m l).Durs.length <= l.length := by
 unfold rdV;split
 ·show ((leI m (rdI m l)).map _).length <= _;rw [List.length_map];exact Nat.le_trans (zlt _ _) zlr
 ·simp
theorem zcX (m : Mn) (l : List Sg) (D : List Tm) (hl : l.length <= 1000) : Fn Tryz.prog 54 [mnA m, sgsA l, tmsA D] (.bool (decide (rdE m l = 0) && decide ((rdV m l).Durs = D))) := by
 have hr := zpJ (m := m) (l := l);refine Fn.go Tryz.func54 Tryz.ntmps54 (fun g w d => ?_);refine gq ?_;refine yb (zdv m l hl) ?_;iterate 5 refine ya ?_
 apply yI;iterate 2 refine ya ?_
 refine ExF.at 2 ?_;refine gq ?_;refine ExF.cg (zaW (rdV m l).Durs D (by omega)) ?_;refine ge ?_;all_goals (first | rfl | (simp_all; done))
end
end Go.Rse
