/-
  Rules: functions compared with nil; a loop whose last round is of another shape.
-/
import Derived.Test.YtggdlojopkoegaaGreatDoorOLogB
import Derived.Test.YtggdlojopkoegaaGreatDoorOJLend
import Derived.Test.YtggdlojopkoegaaGreatDoorOJItem3
set_option linter.unusedSimpArgs false
set_option linter.unusedVariables false
namespace Go.Rse
open Go Go.RowKit
section
variable {P : Program} {C : Ctx} {st : St} {ty : TypeId} {Q : Exit -> St -> Prop}
theorem zk8 {T : TypeId} {x : Operand} {yt : TypeId} {f : FuncId} {cs : List AV} (hu : ∃ a b c, P.underlying T = some (.func a b c)) (hx : ev st x = some (.fn f cs)) : Pur P C (.binOp .neq T x (.const .nilFunc) yt) ty st (.bool true) := fun g a w dst pos af gd hr => by
 obtain ⟨us, e, _, _⟩ := zbA (yw hr hx);have e0 : a.eval (.const .nilFunc) = .nilFunc := rfl;refine ⟨.bool true, ?_, .bool _⟩;obtain ⟨p, q, r, hu⟩ := hu;have hg : (eqGuard .neq T x (.const .nilFunc) (.func (.func f) #[] us.toArray) .nilFunc).run P w = .ok () w := by unfold eqGuard; simp
 have h1 : (Op.equal T (.func (.func f) #[] us.toArray) .nilFunc).run P w = .ok false w := by
  unfold Op.equal;rw [show Op.maxDepth = 9999 + 1 from rfl];unfold Op.equalIn;simp [run_underlying hu]
 simp only [execOp, e, e0, Sem.run_bind, hg, Result.andThen_ok, binOp, h1, Sem.run_pure]; rfl
theorem zju {T : TypeId} {x : Operand} {yt : TypeId} (hu : ∃ a b c, P.underlying T = some (.func a b c)) (hx : ev st x = some .nilf) : Pur P C (.binOp .neq T x (.const .nilFunc) yt) ty st (.bool false) := fun g a w dst pos af gd hr => by
 have e := zer (yw hr hx);have e0 : a.eval (.const .nilFunc) = .nilFunc := rfl;refine ⟨.bool false, ?_, .bool _⟩;obtain ⟨p, q, r, hu⟩ := hu;have hg : (eqGuard .neq T x (.const .nilFunc) .nilFunc .nilFunc).run P w = .ok () w := by unfold eqGuard; simp
 have h1 : (Op.equal T .nilFunc .nilFunc).run P w = .ok true w := by
  unfold Op.equal;rw [show Op.maxDepth = 9999 + 1 from rfl];unfold Op.equalIn;simp [run_underlying hu]
 simp only [execOp, e, e0, Sem.run_bind, hg, Result.andThen_ok, binOp, h1, Sem.run_pure]; rfl
theorem zrP {ι : Type} {c : Code} (I : ι -> List (Nat × AV)) (H : ι -> List (Nat × Blk)) (J : ι -> Prop) (μ : ι -> Nat) (i0 : ι) (IB : ι -> List (Nat × AV)) (HB : ι -> List (Nat × Blk)) (JB : ι -> Prop)
 (hB : ∀ i, JB i -> X P C c ⟨IB i, HB i⟩ (zcX (fun _ => False) Q))
 (h : ∀ i, J i -> X P C c ⟨I i, H i⟩ (zcX (fun st' => (∃ i', Imp C st' ⟨I i', H i'⟩ /\ J i' /\ μ i' < μ i) \/ (∃ i', Imp C st' ⟨IB i', HB i'⟩ /\ JB i')) Q))
 (hJ : J i0) (h0 : Imp C st ⟨I i0, H i0⟩) : X P C (.loop c) st Q := by
 refine X.loop (fun s : ι ⊕ ι => (⟨Sum.elim I IB s, Sum.elim H HB s⟩ : St)) (Sum.elim J JB) (Sum.elim (fun i => μ i + 1) (fun _ => 0)) (.inl i0) h0 hJ (fun s hs => ?_);cases s with
 | inl i =>
  intro g a w hr;refine wpIn_mono (h i hs g a w hr) ?_
  rintro e a w ⟨st, g, hr, q⟩
  refine ⟨st, g, hr, ?_⟩;cases e
  case normal =>
   rcases q with ⟨i', q1, q2, q3⟩ | ⟨i', q1, q2⟩
   ·exact ⟨.inl i', q1, q2, Nat.succ_lt_succ q3⟩
   ·exact ⟨.inr i', q1, q2, Nat.succ_pos _⟩
  all_goals exact q
 | inr i =>
  intro g a w hr;refine wpIn_mono (hB i hs g a w hr) ?_
  rintro e a w ⟨st, g, hr, q⟩
  refine ⟨st, g, hr, ?_⟩;cases e
  case normal => exact q.elim
  all_goals exact q
end
end Go.Rse
namespace Go.Rse
open Go Go.Proofs
attribute [local irreducible] Pur yz yA Ex X Fn Imp LeV LeB FnO It yE FnW FnOW FnP FnD
attribute [local irreducible] cuV cuE apV apE leE leC leI lvN lvF ckM perfL ckIE ckIX
set_option maxHeartbeats 4000000 in
theorem zgP (m : Mn) (l : List Ite) (hl : l.length <= 1000) : Fn Tryz.prog 160 [mnA m, itsA l] (.tup [yl (leC m l), itsA (leI m l), iv (leE m l)]) := by
 have hp4 := zj3 m;refine zlj (ts := [(0, mnA m), (1, itsA l)]) (n := 48) (by kernel_rfl) Tryz.func160 rfl Tryz.ntmps160 rfl rfl (by simp) (fun g w d => ?_);refine XW.seq ?_;apply yc;refine yD ?_;iterate 3 refine yC ?_
 apply Ex.nil;refine XW.seq ?_;apply yc;refine ya ?_;refine ym (zbV m) ?_;iterate 4 refine ya ?_
 refine Ex.mo ?_;apply Ex.nil;refine XW.seq ?_;apply yb;refine yg ?_;refine yk rfl ?_ ?_<;>intro hc1
 ·have hZ1 := zul (l := l) hc1;obtain ⟨hE, hV, hW⟩ := hZ1;apply yd;refine X.drawQ [⟨0, 19, iv (ckM m), []⟩] [(1, []), (2, [1]), (3, [1, 2, 0])] (fun j => match j with | 0 => ⟨[(4, .ptr 4 0 0 0), (5, .ptr 5 0 0 0), (6, .ptr 6 0 0 0)], [(4, .box [.nils] 61), (5, .box [.nils] 194), (6, .box [iv (ckM m)] 28)]⟩ | 1 => ⟨[(4, .ptr 4 0 0 0), (5, .ptr 5 0 0 0), (6, .ptr 6 0 0 0)], [(4, .box [.nils] 61), (5, .box [.nils] 194), (6, .box [iv (ckM m)] 28)]⟩ | 2 => ⟨[(4, .ptr 4 0 0 0), (5, .ptr 5 0 0 0), (6, .ptr 6 0 0 0)], [(4, .box [.nils] 61), (5, .box [.nils] 194), (6, .box [iv (ckM m)] 28)]⟩ | _ => ⟨[(4, .ptr 4 0 0 0), (5, .ptr 5 0 0 0), (6, .ptr 6 0 0 0)], [(4, .box [.nils] 61), (5, .box [.nils] 194), (6, .box [iv (ckM m)] 28)]⟩) mo (by kernel_rfl) (zbk (yn)) (fun j hj => ?_) (fun j c hc β hβ => ?_) ?_
  ·rcases j with _ | _ | _ | _ | j
   ·exact zr
   ·exact zr
   ·exact zr
   ·exact zr
   ·exact absurd (show j + 4 <= 3 from hj) (by omega)
  ·rcases j with _ | _ | _ | j
   ·obtain rfl : (1, []) = c := by injection hc
    refine yr rfl (yS (st0 := ⟨[(19, .ifb (β 0) (iv (ckM m))), (4, .ptr 4 0 0 0), (5, .ptr 5 0 0 0), (6, .ptr 6 0 0 0)], [(4, .box [.nils] 61), (5, .box [.nils] 194), (6, .box [iv (ckM m)] 28)]⟩) (yM) ?_);refine yA.imp (zam rfl rfl rfl rfl TyK.h (by simp)) (yM)
   ·obtain rfl : (2, [1]) = c := by injection hc
    refine yr rfl (yS (st0 := ⟨[(19, .ifb (β 0) (iv (ckM m))), (4, .ptr 4 0 0 0), (5, .ptr 5 0 0 0), (6, .ptr 6 0 0 0)], [(4, .box [.nils] 61), (5, .box [.nils] 194), (6, .box [iv (ckM m)] 28)]⟩) (yM) ?_);refine yA.imp (zam rfl rfl rfl rfl TyK.h (by simp)) (yM)
   ·obtain rfl : (3, [1, 2, 0]) = c := by injection hc
    refine yr rfl (yS (st0 := ⟨[(19, iv (ckM m)), (4, .ptr 4 0 0 0), (5, .ptr 5 0 0 0), (6, .ptr 6 0 0 0)], [(4, .box [.nils] 61), (5, .box [.nils] 194), (6, .box [iv (ckM m)] 28)]⟩) (yM) ?_);refine yA.imp (zam rfl rfl rfl rfl TyK.h (by simp)) (yM)
   ·exact absurd hc (by simp)
  refine X.ret ?_;refine zmL.plain (rv := [.cell 4 61, .cell 5 194, .cell 6 28]) rfl rfl (RetQ.ret (.many (by decide) (.cons (.cellS rfl rfl rfl TyK.h (by rw [hV]; exact LeV.nils _)) (.cons (.cellS rfl rfl rfl TyK.h (by rw [hW]; exact LeV.nils _)) (.cons (.cellS rfl rfl rfl TyK.h (LeV.eq (by rw [hE]))) .nil)))))
 have hm : ckM m = 0 := by omega
 rw [show (if ckM m = 0 then perfL m else []) = perfL m from if_pos hm, hm];apply yf;refine XW.seq ?_;apply yb;refine ya ?_;refine ym (zdE l (by omega)) ?_;iterate 5 refine ya ?_
 apply yj;refine yg ?_;refine yk rfl ?_ ?_<;>intro hc2
 ·have hZ2 := zum hm hc2;obtain ⟨hE, hV, hW⟩ := hZ2;apply yb;refine ya ?_;iterate 3 refine Ex.mo ?_
  apply Ex.nil;refine X.ret ?_;refine zmL.plain (rv := [.cell 4 61, .cell 5 194, .cell 6 28]) rfl rfl (RetQ.ret (.many (by decide) (.cons (.cellS rfl rfl rfl TyK.h (by rw [hV]; exact LeV.nils _)) (.cons (.cellS rfl rfl rfl TyK.h (by rw [hW]; exact LeV.nils _)) (.cons (.cellS rfl rfl rfl TyK.h (LeV.eq (by rw [hE]))) .nil)))))
 have hi : ckIE l = 0 := by omega
 apply yf;refine XW.defer 9 (fun us => ?_);refine XW.of ?_;apply yd;refine X.drawQ [⟨0, 29, mnA m, []⟩, ⟨1, 30, yl (perfL m), []⟩, ⟨2, 31, itsA l, []⟩] [(3, [2]), (4, [2, 3, 1, 0]), (5, [2, 3, 1, 0, 4]), (6, [4, 2, 1, 0, 3, 5])] (fun j => match j with | 0 => ⟨[(1, itsA l), (2, .ptr 2 0 0 0), (7, yl (perfL m)), (4, .ptr 4 0 0 0), (5, .ptr 5 0 0 0), (6, .ptr 6 0 0 0)], [(9, .hold us.toList [.ptr 4 0 0 0, .ptr 5 0 0 0, .ptr 6 0 0 0]), (4, .box [.nils] 61), (5, .box [.nils] 194), (6, .box [iv 0] 28), (2, .box (mnE m) 23)]⟩ | 1 => ⟨[(1, itsA l), (2, .ptr 2 0 0 0), (7, yl (perfL m)), (4, .ptr 4 0 0 0), (5, .ptr 5 0 0 0), (6, .ptr 6 0 0 0), (32, .own 32)], [(9, .hold us.toList [.ptr 4 0 0 0, .ptr 5 0 0 0, .ptr 6 0 0 0]), (4, .box [.nils] 61), (5, .box [.nils] 194), (6, .box [iv 0] 28), (2, .box (mnE m) 23), (32, .row itE l 200 12)]⟩ | 2 => ⟨[(1, itsA l), (2, .ptr 2 0 0 0), (7, yl (perfL m)), (4, .ptr 4 0 0 0), (5, .ptr 5 0 0 0), (6, .ptr 6 0 0 0), (33, .agg [iv m.Max, iv m.Mod, iv m.Tem, iv m.Pro, yl (perfL m), .own 32, .nils])], [(9, .hold us.toList [.ptr 4 0 0 0, .ptr 5 0 0 0, .ptr 6 0 0 0]), (4, .box [.nils] 61), (5, .box [.nils] 194), (6, .box [iv 0] 28), (2, .box (mnE m) 23), (32, .row itE l 200 12)]⟩ | 3 => ⟨[(1, itsA l), (2, .ptr 2 0 0 0), (7, yl (perfL m)), (4, .ptr 4 0 0 0), (5, .ptr 5 0 0 0), (6, .ptr 6 0 0 0), (34, .ptr 34 0 0 0)], [(9, .hold us.toList [.ptr 4 0 0 0, .ptr 5 0 0 0, .ptr 6 0 0 0]), (4, .box [.nils] 61), (5, .box [.nils] 194), (6, .box [iv 0] 28), (2, .box (mnE m) 23), (34, .box [iv m.Max, iv m.Mod, iv m.Tem, iv m.Pro, yl (perfL m), .own 32, .nils] 249), (32, .row itE l 200 12)]⟩ | _ => ⟨[(1, itsA l), (2, .ptr 2 0 0 0), (7, yl (perfL m)), (4, .ptr 4 0 0 0), (5, .ptr 5 0 0 0), (6, .ptr 6 0 0 0), (10, .ptr 34 0 0 0)], [(9, .hold us.toList [.ptr 4 0 0 0, .ptr 5 0 0 0, .ptr 6 0 0 0]), (4, .box [.nils] 61), (5, .box [.nils] 194), (6, .box [iv 0] 28), (2, .box (mnE m) 23), (34, .box [iv m.Max, iv m.Mod, iv m.Tem, iv m.Pro, yl (perfL m), .own 32, .nils] 249), (32, .row itE l 200 12)]⟩) mo (by kernel_rfl) (zbk (yn)) (fun j hj => ?_) (fun j c hc β hβ => ?_) ?_
 ·rcases j with _ | _ | _ | _ | _ | j
  ·exact zr
  ·exact zr
  ·exact zr
  ·exact zr
  ·exact zr
  ·exact absurd (show j + 5 <= 4 from hj) (by omega)
 ·rcases j with _ | _ | _ | _ | j
  ·obtain rfl : (3, [2]) = c := by injection hc
   refine yr rfl (yS (st0 := ⟨[(29, .ifb (β 0) (mnA m)), (30, .ifb (β 1) (yl (perfL m))), (31, itsA l), (1, itsA l), (2, .ptr 2 0 0 0), (7, yl (perfL m)), (4, .ptr 4 0 0 0), (5, .ptr 5 0 0 0), (6, .ptr 6 0 0 0)], [(9, .hold us.toList [.ptr 4 0 0 0, .ptr 5 0 0 0, .ptr 6 0 0 0]), (4, .box [.nils] 61), (5, .box [.nils] 194), (6, .box [iv 0] 28), (2, .box (mnE m) 23)]⟩) (yM) ?_);refine yA.imp (zqG [(5, 32)] (zK l (by omega))) (yM)
  ·obtain rfl : (4, [2, 3, 1, 0]) = c := by injection hc
   refine yr rfl (yS (st0 := ⟨[(29, mnA m), (30, yl (perfL m)), (31, itsA l), (1, itsA l), (2, .ptr 2 0 0 0), (7, yl (perfL m)), (4, .ptr 4 0 0 0), (5, .ptr 5 0 0 0), (6, .ptr 6 0 0 0), (32, .own 32)], [(9, .hold us.toList [.ptr 4 0 0 0, .ptr 5 0 0 0, .ptr 6 0 0 0]), (4, .box [.nils] 61), (5, .box [.nils] 194), (6, .box [iv 0] 28), (2, .box (mnE m) 23), (32, .row itE l 200 12)]⟩) (yM) ?_);refine yA.imp (yx (Pur.stepA zp) rfl rfl) (yM)
  ·obtain rfl : (5, [2, 3, 1, 0, 4]) = c := by injection hc
   refine yr rfl (yS (st0 := ⟨[(29, mnA m), (30, yl (perfL m)), (31, itsA l), (1, itsA l), (2, .ptr 2 0 0 0), (7, yl (perfL m)), (4, .ptr 4 0 0 0), (5, .ptr 5 0 0 0), (6, .ptr 6 0 0 0), (33, .agg [iv m.Max, iv m.Mod, iv m.Tem, iv m.Pro, yl (perfL m), .own 32, .nils])], [(9, .hold us.toList [.ptr 4 0 0 0, .ptr 5 0 0 0, .ptr 6 0 0 0]), (4, .box [.nils] 61), (5, .box [.nils] 194), (6, .box [iv 0] 28), (2, .box (mnE m) 23), (32, .row itE l 200 12)]⟩) (yM) ?_);refine yA.imp (yx (zeK (k := 34) rfl rfl) rfl rfl) (yM)
  ·obtain rfl : (6, [4, 2, 1, 0, 3, 5]) = c := by injection hc
   refine yr rfl (yS (st0 := ⟨[(29, mnA m), (30, yl (perfL m)), (31, itsA l), (1, itsA l), (2, .ptr 2 0 0 0), (7, yl (perfL m)), (4, .ptr 4 0 0 0), (5, .ptr 5 0 0 0), (6, .ptr 6 0 0 0), (34, .ptr 34 0 0 0)], [(9, .hold us.toList [.ptr 4 0 0 0, .ptr 5 0 0 0, .ptr 6 0 0 0]), (4, .box [.nils] 61), (5, .box [.nils] 194), (6, .box [iv 0] 28), (2, .box (mnE m) 23), (34, .box [iv m.Max, iv m.Mod, iv m.Tem, iv m.Pro, yl (perfL m), .own 32, .nils] 249), (32, .row itE l 200 12)]⟩) (yM) ?_);refine yA.imp (yx (Pur.stepA zp) rfl rfl) (yM)
  ·exact absurd hc (by simp)
 iterate 2 apply yd
 refine X.imp (st' := ⟨[(4, .ptr 4 0 0 0), (5, .ptr 5 0 0 0), (6, .ptr 6 0 0 0), (10, .ptr 34 0 0 0)], [(9, .hold us.toList [.ptr 4 0 0 0, .ptr 5 0 0 0, .ptr 6 0 0 0]), (4, .box [.nils] 61), (5, .box [.nils] 194), (6, .box [iv 0] 28), (34, .box [iv m.Max, iv m.Mod, iv m.Tem, iv m.Pro, yl (perfL m), itsA l, .own 40] 249), (40, .row intE [] 3 1)]⟩) (((zgG intE 3 1 34 40 6 249 _ [iv m.Max, iv m.Mod, iv m.Tem, iv m.Pro, yl (perfL m), .own 32, .own 40] rfl rfl rfl rfl).trans (Imp.freeze (k := 32) rfl)).trans yn) ?_;apply yc;refine ye ?_;have hz1 : [] = (lvN m (perfL m) l 0).1 := by unfold lvN; rfl
 have hb0 : ([iv m.Max, iv m.Mod, iv m.Tem, iv m.Pro, yl (perfL m), itsA l, .own 40] : List AV) = [iv m.Max, iv m.Mod, iv m.Tem, iv m.Pro, yl (perfL m), itsA (lvN m (perfL m) l 0).2, .own 40] := by unfold lvN; rfl
 apply X.block;refine zrP (ι := List Int × Nat) (fun p => [(4, .ptr 4 0 0 0), (5, .ptr 5 0 0 0), (6, .ptr 6 0 0 0), (10, .ptr 34 0 0 0), (11, .fn 208 [])]) (fun p => [(9, .hold us.toList [.ptr 4 0 0 0, .ptr 5 0 0 0, .ptr 6 0 0 0]), (4, .box [.nils] 61), (5, .box [.nils] 194), (6, .box [iv 0] 28), (34, .box [iv m.Max, iv m.Mod, iv m.Tem, iv m.Pro, yl p.1, itsA (lvN m (perfL m) l p.2).2, .own 40] 249), (40, .row intE (lvN m (perfL m) l p.2).1 3 1)]) (fun p => (perfL m).drop p.2 = p.1 /\ LvJ m (perfL m) l p.2) (fun p => p.1.length) (perfL m, 0) (fun p => [(4, .ptr 4 0 0 0), (5, .ptr 5 0 0 0), (6, .ptr 6 0 0 0), (10, .ptr 34 0 0 0), (11, .nilf)]) (fun p => [(9, .hold us.toList [.ptr 4 0 0 0, .ptr 5 0 0 0, .ptr 6 0 0 0]), (4, .box [.nils] 61), (5, .box [.nils] 194), (6, .box [iv 0] 28), (34, .box [iv m.Max, iv m.Mod, iv m.Tem, iv m.Pro, yl [], itsA (lvN m (perfL m) l p.2).2, .own 40] 249), (40, .row intE (lvN m (perfL m) l p.2).1 3 1)]) (fun p => p.2 = (perfL m).length /\ LvJ m (perfL m) l p.2) (fun p hk => ?_) (fun p hk => ?_) ⟨rfl, zry _ _ _⟩ yq
 ·obtain ⟨hn, hJ⟩ := hk;have hd := zuo hm hi hJ hn;obtain ⟨hE, hV, hW⟩ := hd;apply yd;apply yb;refine ya ?_;refine ya (hs := by exact zju ⟨_, _, _, Tryz.underlying251⟩ rfl) ?_;apply Ex.nil;refine yk rfl ?_ ?_<;>intro hc
  ·cases hc
  apply X.exit;apply yd;refine X.imp (st' := ⟨[(4, .ptr 4 0 0 0), (5, .ptr 5 0 0 0), (6, .ptr 6 0 0 0), (10, .ptr 34 0 0 0)], [(9, .hold us.toList [.ptr 4 0 0 0, .ptr 5 0 0 0, .ptr 6 0 0 0]), (4, .box [.nils] 61), (5, .box [.nils] 194), (6, .box [iv 0] 28), (34, .box [iv m.Max, iv m.Mod, iv m.Tem, iv m.Pro, yl [], itsA (lvN m (perfL m) l p.2).2, yl (lvN m (perfL m) l p.2).1] 249)]⟩) ((Imp.freeze (k := 40) rfl).trans yn) ?_;refine X.drawQ [⟨0, 40, .ptr 34 0 0 0, []⟩, ⟨1, 41, .ptr 34 0 0 0, [0]⟩, ⟨2, 42, .ptr 34 0 0 (0 + 6), [0, 1]⟩, ⟨3, 43, yl (lvN m (perfL m) l p.2).1, [0, 1, 2]⟩, ⟨4, 44, .ptr 34 0 0 0, []⟩, ⟨5, 45, .ptr 34 0 0 0, [4]⟩, ⟨6, 46, .ptr 34 0 0 (0 + 5), [4, 5]⟩, ⟨7, 47, itsA (lvN m (perfL m) l p.2).2, [4, 5, 6]⟩] [(8, [2, 1, 0, 3]), (9, [6, 5, 4, 3, 2, 1, 0, 8, 7]), (10, [8, 7, 6, 5, 4, 3, 2, 1, 0, 9])] (fun j => match j with | 0 => ⟨[(4, .ptr 4 0 0 0), (5, .ptr 5 0 0 0), (6, .ptr 6 0 0 0), (10, .ptr 34 0 0 0)], [(9, .hold us.toList [.ptr 4 0 0 0, .ptr 5 0 0 0, .ptr 6 0 0 0]), (4, .box [.nils] 61), (5, .box [.nils] 194), (6, .box [iv 0] 28), (34, .box [iv m.Max, iv m.Mod, iv m.Tem, iv m.Pro, yl [], itsA (lvN m (perfL m) l p.2).2, yl (lvN m (perfL m) l p.2).1] 249)]⟩ | 1 => ⟨[(4, .ptr 4 0 0 0), (5, .ptr 5 0 0 0), (6, .ptr 6 0 0 0), (10, .ptr 34 0 0 0)], [(9, .hold us.toList [.ptr 4 0 0 0, .ptr 5 0 0 0, .ptr 6 0 0 0]), (4, .box [yl (lvN m (perfL m) l p.2).1] 61), (5, .box [.nils] 194), (6, .box [iv 0] 28), (34, .box [iv m.Max, iv m.Mod, iv m.Tem, iv m.Pro, yl [], itsA (lvN m (perfL m) l p.2).2, yl (lvN m (perfL m) l p.2).1] 249)]⟩ | 2 => ⟨[(4, .ptr 4 0 0 0), (5, .ptr 5 0 0 0), (6, .ptr 6 0 0 0), (10, .ptr 34 0 0 0)], [(9, .hold us.toList [.ptr 4 0 0 0, .ptr 5 0 0 0, .ptr 6 0 0 0]), (4, .box [yl (lvN m (perfL m) l p.2).1] 61), (5, .box [itsA (lvN m (perfL m) l p.2).2] 194), (6, .box [iv 0] 28), (34, .box [iv m.Max, iv m.Mod, iv m.Tem, iv m.Pro, yl [], itsA (lvN m (perfL m) l p.2).2, yl (lvN m (perfL m) l p.2).1] 249)]⟩ | _ => ⟨[(4, .ptr 4 0 0 0), (5, .ptr 5 0 0 0), (6, .ptr 6 0 0 0), (10, .ptr 34 0 0 0)], [(9, .hold us.toList [.ptr 4 0 0 0, .ptr 5 0 0 0, .ptr 6 0 0 0]), (4, .box [yl (lvN m (perfL m) l p.2).1] 61), (5, .box [itsA (lvN m (perfL m) l p.2).2] 194), (6, .box [iv 0] 28), (34, .box [iv m.Max, iv m.Mod, iv m.Tem, iv m.Pro, yl [], itsA (lvN m (perfL m) l p.2).2, yl (lvN m (perfL m) l p.2).1] 249)]⟩) mo (by kernel_rfl) (zbk (yn)) (fun j hj => ?_) (fun j c hc β hβ => ?_) ?_
  ·rcases j with _ | _ | _ | _ | j
   ·exact zr
   ·exact zr
   ·exact zr
   ·exact zr
   ·exact absurd (show j + 4 <= 3 from hj) (by omega)
  ·rcases j with _ | _ | _ | j
   ·obtain rfl : (8, [2, 1, 0, 3]) = c := by injection hc
    refine yr rfl (yS (st0 := ⟨[(40, .ptr 34 0 0 0), (41, .ptr 34 0 0 0), (42, .ptr 34 0 0 (0 + 6)), (43, yl (lvN m (perfL m) l p.2).1), (44, .ifb (β 4) (.ptr 34 0 0 0)), (45, .ifb (β 5) (.ptr 34 0 0 0)), (46, .ifb (β 6) (.ptr 34 0 0 (0 + 5))), (47, .ifb (β 7) (itsA (lvN m (perfL m) l p.2).2)), (4, .ptr 4 0 0 0), (5, .ptr 5 0 0 0), (6, .ptr 6 0 0 0), (10, .ptr 34 0 0 0)], [(9, .hold us.toList [.ptr 4 0 0 0, .ptr 5 0 0 0, .ptr 6 0 0 0]), (4, .box [.nils] 61), (5, .box [.nils] 194), (6, .box [iv 0] 28), (34, .box [iv m.Max, iv m.Mod, iv m.Tem, iv m.Pro, yl [], itsA (lvN m (perfL m) l p.2).2, yl (lvN m (perfL m) l p.2).1] 249)]⟩) (yM) ?_);refine yA.imp (zam rfl rfl rfl rfl TyK.h (by simp)) (yM)
   ·obtain rfl : (9, [6, 5, 4, 3, 2, 1, 0, 8, 7]) = c := by injection hc
    refine yr rfl (yS (st0 := ⟨[(40, .ptr 34 0 0 0), (41, .ptr 34 0 0 0), (42, .ptr 34 0 0 (0 + 6)), (43, yl (lvN m (perfL m) l p.2).1), (44, .ptr 34 0 0 0), (45, .ptr 34 0 0 0), (46, .ptr 34 0 0 (0 + 5)), (47, itsA (lvN m (perfL m) l p.2).2), (4, .ptr 4 0 0 0), (5, .ptr 5 0 0 0), (6, .ptr 6 0 0 0), (10, .ptr 34 0 0 0)], [(9, .hold us.toList [.ptr 4 0 0 0, .ptr 5 0 0 0, .ptr 6 0 0 0]), (4, .box [yl (lvN m (perfL m) l p.2).1] 61), (5, .box [.nils] 194), (6, .box [iv 0] 28), (34, .box [iv m.Max, iv m.Mod, iv m.Tem, iv m.Pro, yl [], itsA (lvN m (perfL m) l p.2).2, yl (lvN m (perfL m) l p.2).1] 249)]⟩) (yM) ?_);refine yA.imp (zam rfl rfl rfl rfl TyK.h (by simp)) (yM)
   ·obtain rfl : (10, [8, 7, 6, 5, 4, 3, 2, 1, 0, 9]) = c := by injection hc
    refine yr rfl (yS (st0 := ⟨[(40, .ptr 34 0 0 0), (41, .ptr 34 0 0 0), (42, .ptr 34 0 0 (0 + 6)), (43, yl (lvN m (perfL m) l p.2).1), (44, .ptr 34 0 0 0), (45, .ptr 34 0 0 0), (46, .ptr 34 0 0 (0 + 5)), (47, itsA (lvN m (perfL m) l p.2).2), (4, .ptr 4 0 0 0), (5, .ptr 5 0 0 0), (6, .ptr 6 0 0 0), (10, .ptr 34 0 0 0)], [(9, .hold us.toList [.ptr 4 0 0 0, .ptr 5 0 0 0, .ptr 6 0 0 0]), (4, .box [yl (lvN m (perfL m) l p.2).1] 61), (5, .box [itsA (lvN m (perfL m) l p.2).2] 194), (6, .box [iv 0] 28), (34, .box [iv m.Max, iv m.Mod, iv m.Tem, iv m.Pro, yl [], itsA (lvN m (perfL m) l p.2).2, yl (lvN m (perfL m) l p.2).1] 249)]⟩) (yM) ?_);refine yA.imp (zam rfl rfl rfl rfl TyK.h (by simp)) (yM)
   ·exact absurd hc (by simp)
  refine X.ret ?_;refine zdL (kD := 9) (rv := [.cell 4 61, .cell 5 194, .cell 6 28]) [(2000004, 4), (2000005, 5), (2000006, 6)] (zd2 (lvN m (perfL m) l p.2).1 (lvN m (perfL m) l p.2).2) (.inl ⟨rfl, rfl⟩) rfl rfl Imp.refl rfl (LeL.refl _) (.many (by decide) (.cons (.cellS rfl rfl rfl TyK.h (LeV.eq (congrArg (fun z => yl z) hV))) (.cons (.cellS rfl rfl rfl TyK.h (LeV.eq (congrArg (fun z => itsA z) hW))) (.cons (.cellS rfl rfl rfl TyK.h (LeV.eq (congrArg (fun z => AV.int .i64 z) hE.symm))) .nil)))) rfl rfl rfl (by repeat' (first | exact True.intro | refine And.intro ⟨_, _, rfl, rfl, LeB.refl _, rfl⟩ ?_)) rfl rfl rfl
 ·obtain ⟨hdr, hJ⟩ := hk;apply yd;apply yb;refine ya ?_;refine ya (hs := by exact zk8 ⟨_, _, _, Tryz.underlying251⟩ rfl) ?_;apply Ex.nil;refine yk rfl ?_ ?_<;>intro hc
  ·apply yf;apply X.block;obtain ⟨rs, n⟩ := p;have hlen : (lvN m (perfL m) l n).2.length = l.length := hJ.len;have hcho : (lvN m (perfL m) l n).1.length <= n * (2 * l.length + 2) := hJ.cho;have hle : n <= (perfL m).length := hJ.le;rcases rs with _ | ⟨k, r⟩
   ·apply yc;(iterate 2 refine ya ?_);refine zaJ [(2000000, 34), (2000001, 40)] (zfO m (lvN m (perfL m) l n).2 (lvN m (perfL m) l n).1) ?_;refine ye ?_
    have hn : n = (perfL m).length := by
     have h1 := congrArg List.length hdr;rw [List.length_drop] at h1;have h2 : (perfL m).length - n = 0 := h1;have h3 : n <= (perfL m).length := hle;omega
    exact Or.inr ⟨([], n), yn, hn, hJ⟩
   ·have hk : (perfL m)[n]? = some k := by
     have h1 := congrArg (fun z => z[0]?) hdr;simpa using h1
    have hdr2 : (perfL m).drop (n + 1) = r := by
     have h1 := congrArg (fun z => z.drop 1) hdr;simpa using h1
    have hkb := zpT hk;have hl2 : (lvN m (perfL m) l n).2.length <= 1000 := by rw [hlen]; exact hl
    have hC2 : (lvN m (perfL m) l n).1.length <= 1000000 := by
     have h1 : n * (2 * l.length + 2) <= 4 * (2 * l.length + 2) := Nat.mul_le_mul_right _ (Nat.le_trans hle hp4);have h2 := Nat.le_trans hcho h1;omega
    by_cases h0 : cuE m k (lvN m (perfL m) l n).2 = 0
    ·have hQ := zj2 (m := m) (l := l) hk;obtain ⟨hs1, hs2⟩ := hQ;have hbx : ([iv m.Max, iv m.Mod, iv m.Tem, iv m.Pro, yl r, itsA (apV m k (lvN m (perfL m) l n).2 (cuV m k (lvN m (perfL m) l n).2)), .own 41] : List AV) = [iv m.Max, iv m.Mod, iv m.Tem, iv m.Pro, yl r, itsA (lvN m (perfL m) l (n + 1)).2, .own 41] := by rw [hs2]
     apply yc;(iterate 2 refine ya ?_);refine zaJ [(2000000, 34), (2000001, 40), (2000012, 41)] (zgN m (lvN m (perfL m) l n).2 (lvN m (perfL m) l n).1 k r hkb hl2 hC2 h0) ?_;refine ye ?_;refine Or.inl ⟨(r, n + 1), (yn (ts := [(4, .ptr 4 0 0 0), (5, .ptr 5 0 0 0), (6, .ptr 6 0 0 0), (10, .ptr 34 0 0 0), (11, .fn 208 [])]) (hs := [(9, .hold us.toList [.ptr 4 0 0 0, .ptr 5 0 0 0, .ptr 6 0 0 0]), (4, .box [.nils] 61), (5, .box [.nils] 194), (6, .box [iv 0] 28), (34, .box [iv m.Max, iv m.Mod, iv m.Tem, iv m.Pro, yl r, itsA (apV m k (lvN m (perfL m) l n).2 (cuV m k (lvN m (perfL m) l n).2)), .own 41] 249), (41, .row intE ((lvN m (perfL m) l n).1 ++ cuV m k (lvN m (perfL m) l n).2) 3 1)])).trans ((yq (ts := [(4, .ptr 4 0 0 0), (5, .ptr 5 0 0 0), (6, .ptr 6 0 0 0), (10, .ptr 34 0 0 0), (11, .fn 208 [])]) (hs := [(9, .hold us.toList [.ptr 4 0 0 0, .ptr 5 0 0 0, .ptr 6 0 0 0]), (4, .box [.nils] 61), (5, .box [.nils] 194), (6, .box [iv 0] 28), (34, .box [iv m.Max, iv m.Mod, iv m.Tem, iv m.Pro, yl r, itsA (lvN m (perfL m) l (n + 1)).2, .own 41] 249), (41, .row intE (lvN m (perfL m) l (n + 1)).1 3 1)])).trans ((Imp.mv 41 40 rfl rfl).trans yn)), ⟨hdr2, hJ.s hk h0⟩, by simp⟩
    ·have hd := zun hm hi hJ hk h0;obtain ⟨hE, hV, hW⟩ := hd;apply yc;(iterate 2 refine ya ?_);refine zqD [(2000000, 34), (2000001, 40)] (zfb m (lvN m (perfL m) l n).2 (lvN m (perfL m) l n).1 k r hkb hl2 hC2 h0) ?_;refine zdL (kD := 9) (rv := [.cell 4 61, .cell 5 194, .cell 6 28]) [(2000004, 4), (2000005, 5), (2000006, 6)] (zd3 (cuE m k (lvN m (perfL m) l n).2)) (.inr (.inr ⟨_, rfl, rfl⟩)) rfl rfl Imp.refl rfl (LeL.refl _) (.many (by decide) (.cons (.cellS rfl rfl rfl TyK.h (by rw [hV]; exact LeV.nils _)) (.cons (.cellS rfl rfl rfl TyK.h (by rw [hW]; exact LeV.nils _)) (.cons (.cellS rfl rfl rfl TyK.h (LeV.eq (congrArg (fun z => AV.int .i64 z) hE.symm))) .nil)))) rfl rfl rfl (by repeat' (first | exact True.intro | refine And.intro ⟨_, _, rfl, rfl, LeB.refl _, rfl⟩ ?_)) rfl rfl rfl
  ·cases hc
end Go.Rse
namespace Go.Rse
open Go Go.Proofs
attribute [local irreducible] Pur yz yA Ex X Fn Imp LeV LeB FnO It yE FnW FnOW FnP FnD
attribute [local irreducible] leE leC leI rdI rdE rdV ckD zV twos prL itmV itmE
set_option maxHeartbeats 4000000 in
theorem ziI (m : Mn) (l : List Sg) (hl : l.length <= 1000) : Fn Tryz.prog 113 [mnA m, sgsA l] (.tup [rdgA (rdV m l), iv (rdE m l)]) := by
 have hR := zix m l hl;have hil := zjW (m := m) (l := l);have hLl := zjY m (rdI m l);have hpl : (twos (prL m l).length).length <= 1000 := by rw [zcG]; have := zhB m l; omega
 have hdl : (zV m l).length <= 4000000 := by have := ziC m l; have := ziQ m l; omega
 refine Fn.go Tryz.func113 Tryz.ntmps113 (fun g w d => ?_);apply yb;refine yD ?_;refine yC ?_;refine ye ?_;apply yd;apply yb;iterate 2 refine ya ?_
 refine ym (zbb m l hl) ?_;refine ya ?_;apply yj;refine yg ?_;refine yk rfl ?_ ?_<;>intro hc1
 ·have hZ1 := ztX hc1;obtain ⟨hE, hV⟩ := hZ1;apply yb;iterate 2 refine ya ?_
  refine Ex.mo ?_;refine ye ?_;refine X.ret ?_;refine RetQ.imp (Imp.of (ts := [(4, .ptr 4 0 0 0), (5, iv (ckD m l))]) (hs := [(4, .box [yl [], yl [], yl [], tmsA []] 110)]) ⟨⟨_, rfl, LeV.refl _⟩, ⟨_, rfl, LeV.refl _⟩, True.intro⟩ ⟨⟨_, rfl, LeB.box (.cons (LeV.nils _) (.cons (LeV.nils _) (.cons (LeV.nils _) (.cons (LeV.nils _) .nil))))⟩, True.intro⟩) ?_;refine yY zkV ?_ ?_;all_goals (first | exact congrArg (fun z => AV.agg (rdgE z)) hV.symm | exact congrArg (fun z => AV.int .i64 z) hE.symm)
 have h0 : ckD m l = 0 := by omega
 rw [if_pos h0, h0] at hR;have hit := zrk h0
 have hI : Fn Tryz.prog 159 [mnA m, sgsA l, yl (zV m l), yl (twos (prL m l).length)] (.tup [itsA (rdI m l), iv 0]) := by
  have h := zhM m l (zV m l) (twos (prL m l).length) hl hpl;rw [hit] at h; unfold rdI; exact h
 apply yf;apply yb;iterate 2 refine ya ?_
 refine ym hR ?_;iterate 6 refine ya ?_
 refine ye ?_;apply yd;apply yb;refine yg ?_;refine yk rfl ?_ ?_<;>intro hc2
 ·exact absurd rfl hc2
 apply yf;apply yb;iterate 4 refine ya ?_
 refine ym hI ?_;refine zw ?_;apply yd;apply yb;refine yg ?_;refine yk rfl ?_ ?_<;>intro hc3
 ·exact absurd rfl hc3
 apply yf;apply yb;iterate 2 refine ya ?_
 refine ym (zgP m (rdI m l) (by omega)) ?_;iterate 6 refine ya ?_
 refine ye ?_;apply yd;apply yb;refine yg ?_;refine yk rfl ?_ ?_<;>intro hc4
 ·have hZ2 := ztY h0 hc4;obtain ⟨hE, hV⟩ := hZ2;apply yb;iterate 2 refine ya ?_
  refine Ex.mo ?_;refine ye ?_;refine X.ret ?_;refine RetQ.imp (Imp.of (ts := [(4, .ptr 4 0 0 0), (5, iv (leE m (rdI m l)))]) (hs := [(4, .box [yl [], yl [], yl [], tmsA []] 110)]) ⟨⟨_, rfl, LeV.refl _⟩, ⟨_, rfl, LeV.refl _⟩, True.intro⟩ ⟨⟨_, rfl, LeB.box (.cons (LeV.nils _) (.cons (LeV.nils _) (.cons (LeV.nils _) (.cons (LeV.nils _) .nil))))⟩, True.intro⟩) ?_;refine yY zkV ?_ ?_;all_goals (first | exact congrArg (fun z => AV.agg (rdgE z)) hV.symm | exact congrArg (fun z => AV.int .i64 z) hE.symm)
 have h2 : leE m (rdI m l) = 0 := by omega
 have hZ3 := ztZ h0 h2;obtain ⟨hE, hV0⟩ := hZ3;have hz0 : [] = ((leI m (rdI m l)).take 0).map (fun x => x.Dur) := by simp
 apply yf;apply yb;iterate 4 refine ya ?_
 refine yC ?_;refine Ex.mo ?_;apply Ex.nil;iterate 2 apply yd
 refine X.imp (st' := ⟨[(4, .ptr 4 0 0 0), (10, itsA (leI m (rdI m l))), (12, .ptr 12 0 0 0)], [(4, .box [.nils, .nils, .nils, .nils] 110), (12, .box [yl (zV m l), yl (twos (prL m l).length), yl (leC m (rdI m l)), .own 40] 110), (40, .row tmE [] 40 2)]⟩) ((zgG tmE 40 2 12 40 3 110 _ [yl (zV m l), yl (twos (prL m l).length), yl (leC m (rdI m l)), .own 40] rfl rfl rfl rfl).trans yn) ?_;apply yc;refine yo ?_;apply X.block
 refine zj (ι := Nat) (fun (n : Nat) => [(4, .ptr 4 0 0 0), (12, .ptr 12 0 0 0), (60, itsA (leI m (rdI m l))), (61, iv (leI m (rdI m l)).length), (62, iv (n : Int))]) (fun (n : Nat) => [(4, .box [.nils, .nils, .nils, .nils] 110), (12, .box [yl (zV m l), yl (twos (prL m l).length), yl (leC m (rdI m l)), .own 40] 110), (40, .row tmE (((leI m (rdI m l)).take n).map (fun x => x.Dur)) 40 2)]) (fun (n : Nat) => n <= (leI m (rdI m l)).length) (fun (n : Nat) => (leI m (rdI m l)).length - n) 0 (fun n hk => ?_) (h0 := by
  exact yq)
 apply yb;refine ye ?_;apply yd;refine yk rfl ?_ ?_<;>intro hc5
 ·obtain ⟨x, hx⟩ : ∃ x, (leI m (rdI m l))[n]? = some x := ⟨_, lgg (by omega)⟩;have hx2 : (leI m (rdI m l))[(n : Int).toNat]? = some x := by simpa using hx
  have hst := zpM hx;have htl : (((leI m (rdI m l)).take n).map (fun x => x.Dur)).length <= 1000 := by rw [List.length_map, List.length_take]; omega
  apply yf;apply yd;apply X.block;apply yb;iterate 2 refine ya ?_
  refine yC ?_;refine Ex.mo ?_;apply Ex.nil;apply yc;iterate 4 refine ya ?_
  refine yQ tmE [⟨_, _⟩] ?_;refine Ex.mo ?_;refine ya ?_;refine Ex.mo ?_;apply Ex.nil;apply yc;refine yg ?_;refine yL (n + 1) (hI := yq)
 ·have hn : n = (leI m (rdI m l)).length := by omega
  subst hn;have hV : rdV m l = ⟨zV m l, twos (prL m l).length, leC m (rdI m l), ((leI m (rdI m l)).take (leI m (rdI m l)).length).map (fun x => x.Dur)⟩ := by rw [hV0, List.take_length]
  apply X.exit;apply yd;refine X.imp (st' := ⟨[(4, .ptr 4 0 0 0), (12, .ptr 12 0 0 0)], [(4, .box [.nils, .nils, .nils, .nils] 110), (12, .box [yl (zV m l), yl (twos (prL m l).length), yl (leC m (rdI m l)), tmsA (((leI m (rdI m l)).take (leI m (rdI m l)).length).map (fun x => x.Dur))] 110)]⟩) ((Imp.freeze (k := 40) rfl).trans yn) ?_;apply yc;refine ya ?_;refine Ex.mo ?_;refine ye ?_;refine X.ret ?_;refine yY zkV ?_ ?_;all_goals (first | exact congrArg (fun z => AV.agg (rdgE z)) hV.symm | exact congrArg (fun z => AV.int .i64 z) hE.symm)
end Go.Rse
namespace Go.Rse
open Go Go.Proofs
attribute [local irreducible] Pur yz yA Ex X Fn Imp LeV LeB FnO It yE FnW FnOW FnP FnD
attribute [local irreducible] rdE rdV
theorem ziJ (m : Mn) (l : List Sg) (hl : l.length <= 1000) : Fn Tryz.prog 47 [mnA m, sgsA l] (.tup [tmsA (rdV m l).Durs, iv (rdE m l)]) := by
 refine Fn.go Tryz.func47 Tryz.ntmps47 (fun g w d => ?_);apply yb;refine yD ?_;iterate 2 refine ya ?_
 apply yj;iterate 2 refine ya ?_
 refine ym (ziI m l hl) ?_;iterate 3 refine ya ?_
 refine yC ?_;refine Ex.mo ?_;refine ya ?_;apply yj;refine zw ?_;refine X.ret ?_;refine yy ?_ ?_;all_goals (first | (with_reducible rfl) | rfl)
theorem znC {m : Mn} {l : List Sg} : (rdV m l).Durs.length <= l.length := by
 unfold rdV;split
 ·show ((leI m (rdI m l)).map _).length <= _;rw [List.length_map];exact Nat.le_trans (zjY _ _) zjW
 ·simp
theorem zea (m : Mn) (l : List Sg) (D : List Tm) (hl : l.length <= 1000) : Fn Tryz.prog 102 [mnA m, sgsA l, tmsA D] (.bool (decide (rdE m l = 0) && decide ((rdV m l).Durs = D))) := by
 have hr := znC (m := m) (l := l);refine Fn.go Tryz.func102 Tryz.ntmps102 (fun g w d => ?_);apply yb;refine yD ?_;refine ya ?_;apply yj;iterate 2 refine ya ?_
 refine ym (ziJ m l hl) ?_;iterate 5 refine ya ?_
 apply yj;iterate 2 refine ya ?_
 refine ExF.at 2 ?_;refine yO ?_;iterate 2 refine ExF.gi ?_
 refine ExF.cg (zaO (rdV m l).Durs D (by omega)) ?_;refine yF ?_;refine yg ?_;refine X.ret ?_;refine yh ?_;all_goals (first | rfl | (simp_all; done))
end Go.Rse
