/-
  Walks: the deferred end of a reading by the rule.
-/
import Derived.Test.YtkpbljifckjeoaaGreatDoorVJLvl17
set_option linter.unusedSimpArgs false
set_option linter.unusedVariables false
namespace Go.Rse
open Go Go.Proofs
attribute [local irreducible] Pur yw yy Ex X Fn Imp LeV LeB FnO It yz FnW FnOW FnP
theorem ze0 (A : List Int) (B : List Ite) : FnD Tryz.prog 98 [.ptr 2000004 0 0 0, .ptr 2000005 0 0 0, .ptr 2000006 0 0 0] [(2000004, .box [ye A] 59), (2000005, .box [itsA B] 114), (2000006, .box [iv 0] 28)] [2000004, 2000005, 2000006] (.returning) (.returning) [(2000004, .box [ye A] 59), (2000005, .box [itsA B] 114), (2000006, .box [iv 0] 28)] := by
 refine FnD.intro (ts := [(0, .ptr 2000004 0 0 0), (1, .ptr 2000005 0 0 0), (2, .ptr 2000006 0 0 0)]) (n := 19) (cs := [.ptr 2000004 0 0 0, .ptr 2000005 0 0 0, .ptr 2000006 0 0 0]) (by kernel_rfl) Tryz.func98 rfl Tryz.ntmps98 rfl (by simp) rfl (by simp) rfl rfl rfl (fun g w d vs => ?_);refine XS.seq ?_;refine XS.recover rfl rfl (v := .nilIface) (.inl ⟨rfl, rfl, rfl⟩) ?_;refine XS.of ?_;apply yg;refine ya ?_;refine ya (hs := by exact zhz ⟨_, Tryz.underlying20⟩ rfl) ?_;refine gd ?_ ?_<;>intro hc1
 ·cases hc1
 apply yr;exact ⟨rfl, .inl rfl, [], [], yd⟩
theorem ze1 (e : Int) : FnD Tryz.prog 98 [.ptr 2000004 0 0 0, .ptr 2000005 0 0 0, .ptr 2000006 0 0 0] [(2000004, .box [.nils] 59), (2000005, .box [.nils] 114), (2000006, .box [iv 0] 28)] [2000004, 2000005, 2000006] (.panicking [{ v := ifV 153 .i64 e, recovered := false }]) (.panicking [{ v := ifV 153 .i64 e, recovered := true }]) [(2000004, .box [.nils] 59), (2000005, .box [.nils] 114), (2000006, .box [iv e] 28)] := by
 refine FnD.intro (ts := [(0, .ptr 2000004 0 0 0), (1, .ptr 2000005 0 0 0), (2, .ptr 2000006 0 0 0)]) (n := 19) (cs := [.ptr 2000004 0 0 0, .ptr 2000005 0 0 0, .ptr 2000006 0 0 0]) (by kernel_rfl) Tryz.func98 rfl Tryz.ntmps98 rfl (by simp) rfl (by simp) rfl rfl rfl (fun g w d vs => ?_);refine XS.seq ?_;refine XS.recover rfl rfl (v := ifV 153 .i64 e) (.inr ⟨[], rfl, rfl⟩) ?_;refine XS.of ?_;apply yg;refine ya ?_;refine ya (hs := by exact zka ⟨_, Tryz.underlying20⟩ rfl) ?_;refine gd ?_ ?_<;>intro hc1
 ·apply yg;refine ya ?_;refine ya (hs := by exact zhX rfl ⟨_, Tryz.underlying153⟩) ?_;refine gd ?_ ?_<;>intro hc2
  ·cases hc2
  apply yr;refine X.drawQ [⟨0, 17, .ptr 4 0 0 (0 + 0), []⟩, ⟨1, 18, iv e, [0]⟩] [(2, []), (3, [2]), (4, [2, 0, 3, 1])] (fun j => match j with | 0 => ⟨[(0, .ptr 2000004 0 0 0), (1, .ptr 2000005 0 0 0), (2, .ptr 2000006 0 0 0), (4, .ptr 4 0 0 0)], [(1000001, .hold vs [.ptr 2000004 0 0 0, .ptr 2000005 0 0 0, .ptr 2000006 0 0 0]), (2000004, .box [.nils] 59), (2000005, .box [.nils] 114), (2000006, .box [iv 0] 28), (4, .box [iv e] 153)]⟩ | 1 => ⟨[(0, .ptr 2000004 0 0 0), (1, .ptr 2000005 0 0 0), (2, .ptr 2000006 0 0 0), (4, .ptr 4 0 0 0)], [(1000001, .hold vs [.ptr 2000004 0 0 0, .ptr 2000005 0 0 0, .ptr 2000006 0 0 0]), (2000004, .box [.nils] 59), (2000005, .box [.nils] 114), (2000006, .box [iv 0] 28), (4, .box [iv e] 153)]⟩ | 2 => ⟨[(0, .ptr 2000004 0 0 0), (1, .ptr 2000005 0 0 0), (2, .ptr 2000006 0 0 0), (4, .ptr 4 0 0 0)], [(1000001, .hold vs [.ptr 2000004 0 0 0, .ptr 2000005 0 0 0, .ptr 2000006 0 0 0]), (2000004, .box [.nils] 59), (2000005, .box [.nils] 114), (2000006, .box [iv 0] 28), (4, .box [iv e] 153)]⟩ | _ => ⟨[(0, .ptr 2000004 0 0 0), (1, .ptr 2000005 0 0 0), (2, .ptr 2000006 0 0 0), (4, .ptr 4 0 0 0)], [(1000001, .hold vs [.ptr 2000004 0 0 0, .ptr 2000005 0 0 0, .ptr 2000006 0 0 0]), (2000004, .box [.nils] 59), (2000005, .box [.nils] 114), (2000006, .box [iv e] 28), (4, .box [iv e] 153)]⟩) mo (by kernel_rfl) (za7 (yd)) (fun j hj => ?_) (fun j c hc β hβ => ?_) ?_
  ·rcases j with _ | _ | _ | _ | j
   ·exact zg
   ·exact zg
   ·exact zg
   ·exact zg
   ·exact absurd (show j + 4 <= 3 from hj) (by omega)
  ·rcases j with _ | _ | _ | j
   ·obtain rfl : (2, []) = c := by injection hc
    refine yh rfl (yF (st0 := ⟨[(17, .ifb (β 0) (.ptr 4 0 0 (0 + 0))), (18, .ifb (β 1) (iv e)), (0, .ptr 2000004 0 0 0), (1, .ptr 2000005 0 0 0), (2, .ptr 2000006 0 0 0), (4, .ptr 4 0 0 0)], [(1000001, .hold vs [.ptr 2000004 0 0 0, .ptr 2000005 0 0 0, .ptr 2000006 0 0 0]), (2000004, .box [.nils] 59), (2000005, .box [.nils] 114), (2000006, .box [iv 0] 28), (4, .box [iv e] 153)]⟩) (yA) ?_);refine yy.imp (zag rfl rfl rfl rfl TyK.h (by simp)) (yA)
   ·obtain rfl : (3, [2]) = c := by injection hc
    refine yh rfl (yF (st0 := ⟨[(17, .ifb (β 0) (.ptr 4 0 0 (0 + 0))), (18, .ifb (β 1) (iv e)), (0, .ptr 2000004 0 0 0), (1, .ptr 2000005 0 0 0), (2, .ptr 2000006 0 0 0), (4, .ptr 4 0 0 0)], [(1000001, .hold vs [.ptr 2000004 0 0 0, .ptr 2000005 0 0 0, .ptr 2000006 0 0 0]), (2000004, .box [.nils] 59), (2000005, .box [.nils] 114), (2000006, .box [iv 0] 28), (4, .box [iv e] 153)]⟩) (yA) ?_);refine yy.imp (zag rfl rfl rfl rfl TyK.h (by simp)) (yA)
   ·obtain rfl : (4, [2, 0, 3, 1]) = c := by injection hc
    refine yh rfl (yF (st0 := ⟨[(17, .ptr 4 0 0 (0 + 0)), (18, iv e), (0, .ptr 2000004 0 0 0), (1, .ptr 2000005 0 0 0), (2, .ptr 2000006 0 0 0), (4, .ptr 4 0 0 0)], [(1000001, .hold vs [.ptr 2000004 0 0 0, .ptr 2000005 0 0 0, .ptr 2000006 0 0 0]), (2000004, .box [.nils] 59), (2000005, .box [.nils] 114), (2000006, .box [iv 0] 28), (4, .box [iv e] 153)]⟩) (yA) ?_);refine yy.imp (zag rfl rfl rfl rfl TyK.h (by simp)) (yA)
   ·exact absurd hc (by simp)
  exact ⟨rfl, .inl rfl, [], [], yd⟩
 ·cases hc1
end Go.Rse
namespace Go.Rse
open Go Go.RowKit
section
variable {P : Program} {C : Ctx} {st : St} {ty : TypeId} {Q : Exit -> St -> Prop}
theorem zmx {T : TypeId} {x : Operand} {yt : TypeId} {f : FuncId} {cs : List AV} (hu : ∃ a b c, P.underlying T = some (.func a b c)) (hx : ev st x = some (.fn f cs)) : Pur P C (.binOp .neq T x (.const .nilFunc) yt) ty st (.bool true) := fun g a w dst pos af gd hr => by
 obtain ⟨us, e, _, _⟩ := zb4 (yu hr hx);have e0 : a.eval (.const .nilFunc) = .nilFunc := rfl;refine ⟨.bool true, ?_, .bool _⟩;obtain ⟨p, q, r, hu⟩ := hu;have hg : (eqGuard .neq T x (.const .nilFunc) (.func (.func f) #[] us.toArray) .nilFunc).run P w = .ok () w := by unfold eqGuard; simp
 have h1 : (Op.equal T (.func (.func f) #[] us.toArray) .nilFunc).run P w = .ok false w := by
  unfold Op.equal;rw [show Op.maxDepth = 9999 + 1 from rfl];unfold Op.equalIn;simp [run_underlying hu]
 simp only [execOp, e, e0, Sem.run_bind, hg, Result.andThen_ok, binOp, h1, Sem.run_pure]; rfl
theorem zkx {T : TypeId} {x : Operand} {yt : TypeId} (hu : ∃ a b c, P.underlying T = some (.func a b c)) (hx : ev st x = some .nilf) : Pur P C (.binOp .neq T x (.const .nilFunc) yt) ty st (.bool false) := fun g a w dst pos af gd hr => by
 have e := zfk (yu hr hx);have e0 : a.eval (.const .nilFunc) = .nilFunc := rfl;refine ⟨.bool false, ?_, .bool _⟩;obtain ⟨p, q, r, hu⟩ := hu;have hg : (eqGuard .neq T x (.const .nilFunc) .nilFunc .nilFunc).run P w = .ok () w := by unfold eqGuard; simp
 have h1 : (Op.equal T .nilFunc .nilFunc).run P w = .ok true w := by
  unfold Op.equal;rw [show Op.maxDepth = 9999 + 1 from rfl];unfold Op.equalIn;simp [run_underlying hu]
 simp only [execOp, e, e0, Sem.run_bind, hg, Result.andThen_ok, binOp, h1, Sem.run_pure]; rfl
theorem zt4 {ι : Type} {c : Code} (I : ι -> List (Nat × AV)) (H : ι -> List (Nat × Blk)) (J : ι -> Prop) (μ : ι -> Nat) (i0 : ι) (IB : ι -> List (Nat × AV)) (HB : ι -> List (Nat × Blk)) (JB : ι -> Prop)
 (hB : ∀ i, JB i -> X P C c ⟨IB i, HB i⟩ (zdC (fun _ => False) Q))
 (h : ∀ i, J i -> X P C c ⟨I i, H i⟩ (zdC (fun st' => (∃ i', Imp C st' ⟨I i', H i'⟩ /\ J i' /\ μ i' < μ i) \/ (∃ i', Imp C st' ⟨IB i', HB i'⟩ /\ JB i')) Q))
 (hJ : J i0) (h0 : Imp C st ⟨I i0, H i0⟩) : X P C (.loop c) st Q := by
 refine X.loop (fun s : ι ⊕ ι => (⟨Sum.elim I IB s, Sum.elim H HB s⟩ : St)) (Sum.elim J JB) (Sum.elim (fun i => μ i + 1) (fun _ => 0)) (.inl i0) h0 hJ (fun s hs => ?_);cases s with
 | inl i =>
  intro g a w hr;refine wpIn_mono (h i hs g a w hr) ?_
  rintro e a w ⟨st, g, hr, q⟩
  refine ⟨st, g, hr, ?_⟩;cases e
  case normal =>
   rcases q with ⟨i', q1, q2, q3⟩ | ⟨i', q1, q2⟩
   ·exact ⟨.inl i', q1, q2, Nat.succ_lt_succ q3⟩
   ·exact ⟨.inr i', q1, q2, Nat.succ_pos _⟩
  all_goals exact q
 | inr i =>
  intro g a w hr;refine wpIn_mono (hB i hs g a w hr) ?_
  rintro e a w ⟨st, g, hr, q⟩
  refine ⟨st, g, hr, ?_⟩;cases e
  case normal => exact q.elim
  all_goals exact q
end
end Go.Rse
namespace Go.Rse
open Go Go.Proofs
attribute [local irreducible] Pur yw yy Ex X Fn Imp LeV LeB FnO It yz FnW FnOW FnP FnD
attribute [local irreducible] cuV cuE apV apE leE leC leI lvN lvF ckM perfL ckIE ckIX
set_option maxHeartbeats 4000000 in
theorem zhP (m : Mn) (l : List Ite) (hl : l.length <= 1000) : Fn Tryz.prog 73 [mnA m, itsA l] (.tup [ye (leC m l), itsA (leI m l), iv (leE m l)]) := by
 have hp4 := zoT m;refine zmH (ts := [(0, mnA m), (1, itsA l)]) (n := 48) (by kernel_rfl) Tryz.func73 rfl Tryz.ntmps73 rfl rfl (by simp) (fun g w d => ?_);refine XW.seq ?_;apply yo;refine zbs ?_;iterate 3 refine zD ?_
 apply Ex.nil;refine XW.seq ?_;refine gq ?_;refine yb (zef m) ?_;iterate 4 refine ya ?_
 refine Ex.mo ?_;apply Ex.nil;refine XW.seq ?_;refine gd ?_ ?_<;>intro hc1
 ·have hZ1 := zwX (l := l) hc1;obtain ⟨hE, hV, hW⟩ := hZ1;apply yn;refine X.drawQ [⟨0, 19, iv (ckM m), []⟩] [(1, []), (2, [1]), (3, [1, 2, 0])] (fun j => match j with | 0 => ⟨[(4, .ptr 4 0 0 0), (5, .ptr 5 0 0 0), (6, .ptr 6 0 0 0)], [(4, .box [.nils] 59), (5, .box [.nils] 114), (6, .box [iv (ckM m)] 28)]⟩ | 1 => ⟨[(4, .ptr 4 0 0 0), (5, .ptr 5 0 0 0), (6, .ptr 6 0 0 0)], [(4, .box [.nils] 59), (5, .box [.nils] 114), (6, .box [iv (ckM m)] 28)]⟩ | 2 => ⟨[(4, .ptr 4 0 0 0), (5, .ptr 5 0 0 0), (6, .ptr 6 0 0 0)], [(4, .box [.nils] 59), (5, .box [.nils] 114), (6, .box [iv (ckM m)] 28)]⟩ | _ => ⟨[(4, .ptr 4 0 0 0), (5, .ptr 5 0 0 0), (6, .ptr 6 0 0 0)], [(4, .box [.nils] 59), (5, .box [.nils] 114), (6, .box [iv (ckM m)] 28)]⟩) mo (by kernel_rfl) (za7 (yd)) (fun j hj => ?_) (fun j c hc β hβ => ?_) ?_
  ·rcases j with _ | _ | _ | _ | j
   ·exact zg
   ·exact zg
   ·exact zg
   ·exact zg
   ·exact absurd (show j + 4 <= 3 from hj) (by omega)
  ·rcases j with _ | _ | _ | j
   ·obtain rfl : (1, []) = c := by injection hc
    refine yh rfl (yF (st0 := ⟨[(19, .ifb (β 0) (iv (ckM m))), (4, .ptr 4 0 0 0), (5, .ptr 5 0 0 0), (6, .ptr 6 0 0 0)], [(4, .box [.nils] 59), (5, .box [.nils] 114), (6, .box [iv (ckM m)] 28)]⟩) (yA) ?_);refine yy.imp (zag rfl rfl rfl rfl TyK.h (by simp)) (yA)
   ·obtain rfl : (2, [1]) = c := by injection hc
    refine yh rfl (yF (st0 := ⟨[(19, .ifb (β 0) (iv (ckM m))), (4, .ptr 4 0 0 0), (5, .ptr 5 0 0 0), (6, .ptr 6 0 0 0)], [(4, .box [.nils] 59), (5, .box [.nils] 114), (6, .box [iv (ckM m)] 28)]⟩) (yA) ?_);refine yy.imp (zag rfl rfl rfl rfl TyK.h (by simp)) (yA)
   ·obtain rfl : (3, [1, 2, 0]) = c := by injection hc
    refine yh rfl (yF (st0 := ⟨[(19, iv (ckM m)), (4, .ptr 4 0 0 0), (5, .ptr 5 0 0 0), (6, .ptr 6 0 0 0)], [(4, .box [.nils] 59), (5, .box [.nils] 114), (6, .box [iv (ckM m)] 28)]⟩) (yA) ?_);refine yy.imp (zag rfl rfl rfl rfl TyK.h (by simp)) (yA)
   ·exact absurd hc (by simp)
  refine X.ret ?_;refine zot.plain (rv := [.cell 4 59, .cell 5 114, .cell 6 28]) rfl rfl (RetQ.ret (.many (by decide) (.cons (.cellS rfl rfl rfl TyK.h (by rw [hV]; exact LeV.nils _)) (.cons (.cellS rfl rfl rfl TyK.h (by rw [hW]; exact LeV.nils _)) (.cons (.cellS rfl rfl rfl TyK.h (LeV.eq (by rw [hE]))) .nil)))))
 have hm : ckM m = 0 := by omega
 rw [show (if ckM m = 0 then perfL m else []) = perfL m from if_pos hm, hm];apply yr;refine XW.seq ?_;refine gq ?_;refine yb (zeh l (by omega)) ?_;refine gd ?_ ?_<;>intro hc2
 ·have hZ2 := zwY hm hc2;obtain ⟨hE, hV, hW⟩ := hZ2;apply yg;refine ya ?_;iterate 3 refine Ex.mo ?_
  apply Ex.nil;refine X.ret ?_;refine zot.plain (rv := [.cell 4 59, .cell 5 114, .cell 6 28]) rfl rfl (RetQ.ret (.many (by decide) (.cons (.cellS rfl rfl rfl TyK.h (by rw [hV]; exact LeV.nils _)) (.cons (.cellS rfl rfl rfl TyK.h (by rw [hW]; exact LeV.nils _)) (.cons (.cellS rfl rfl rfl TyK.h (LeV.eq (by rw [hE]))) .nil)))))
 have hi : ckIE l = 0 := by omega
 apply yr;refine XW.defer 9 (fun us => ?_);refine XW.of ?_;apply yn;refine X.drawQ [⟨0, 29, mnA m, []⟩, ⟨1, 30, ye (perfL m), []⟩, ⟨2, 31, itsA l, []⟩] [(3, [2]), (4, [2, 3, 1, 0]), (5, [2, 3, 1, 0, 4]), (6, [4, 2, 1, 0, 3, 5])] (fun j => match j with | 0 => ⟨[(1, itsA l), (2, .ptr 2 0 0 0), (7, ye (perfL m)), (4, .ptr 4 0 0 0), (5, .ptr 5 0 0 0), (6, .ptr 6 0 0 0)], [(9, .hold us.toList [.ptr 4 0 0 0, .ptr 5 0 0 0, .ptr 6 0 0 0]), (4, .box [.nils] 59), (5, .box [.nils] 114), (6, .box [iv 0] 28), (2, .box (mnE m) 32)]⟩ | 1 => ⟨[(1, itsA l), (2, .ptr 2 0 0 0), (7, ye (perfL m)), (4, .ptr 4 0 0 0), (5, .ptr 5 0 0 0), (6, .ptr 6 0 0 0), (32, .own 32)], [(9, .hold us.toList [.ptr 4 0 0 0, .ptr 5 0 0 0, .ptr 6 0 0 0]), (4, .box [.nils] 59), (5, .box [.nils] 114), (6, .box [iv 0] 28), (2, .box (mnE m) 32), (32, .row itE l 120 12)]⟩ | 2 => ⟨[(1, itsA l), (2, .ptr 2 0 0 0), (7, ye (perfL m)), (4, .ptr 4 0 0 0), (5, .ptr 5 0 0 0), (6, .ptr 6 0 0 0), (33, .agg [iv m.Max, iv m.Mod, iv m.Tem, iv m.Pro, ye (perfL m), .own 32, .nils])], [(9, .hold us.toList [.ptr 4 0 0 0, .ptr 5 0 0 0, .ptr 6 0 0 0]), (4, .box [.nils] 59), (5, .box [.nils] 114), (6, .box [iv 0] 28), (2, .box (mnE m) 32), (32, .row itE l 120 12)]⟩ | 3 => ⟨[(1, itsA l), (2, .ptr 2 0 0 0), (7, ye (perfL m)), (4, .ptr 4 0 0 0), (5, .ptr 5 0 0 0), (6, .ptr 6 0 0 0), (34, .ptr 34 0 0 0)], [(9, .hold us.toList [.ptr 4 0 0 0, .ptr 5 0 0 0, .ptr 6 0 0 0]), (4, .box [.nils] 59), (5, .box [.nils] 114), (6, .box [iv 0] 28), (2, .box (mnE m) 32), (34, .box [iv m.Max, iv m.Mod, iv m.Tem, iv m.Pro, ye (perfL m), .own 32, .nils] 158), (32, .row itE l 120 12)]⟩ | _ => ⟨[(1, itsA l), (2, .ptr 2 0 0 0), (7, ye (perfL m)), (4, .ptr 4 0 0 0), (5, .ptr 5 0 0 0), (6, .ptr 6 0 0 0), (10, .ptr 34 0 0 0)], [(9, .hold us.toList [.ptr 4 0 0 0, .ptr 5 0 0 0, .ptr 6 0 0 0]), (4, .box [.nils] 59), (5, .box [.nils] 114), (6, .box [iv 0] 28), (2, .box (mnE m) 32), (34, .box [iv m.Max, iv m.Mod, iv m.Tem, iv m.Pro, ye (perfL m), .own 32, .nils] 158), (32, .row itE l 120 12)]⟩) mo (by kernel_rfl) (za7 (yd)) (fun j hj => ?_) (fun j c hc β hβ => ?_) ?_
 ·rcases j with _ | _ | _ | _ | _ | j
  ·exact zg
  ·exact zg
  ·exact zg
  ·exact zg
  ·exact zg
  ·exact absurd (show j + 5 <= 4 from hj) (by omega)
 ·rcases j with _ | _ | _ | _ | j
  ·obtain rfl : (3, [2]) = c := by injection hc
   refine yh rfl (yF (st0 := ⟨[(29, .ifb (β 0) (mnA m)), (30, .ifb (β 1) (ye (perfL m))), (31, itsA l), (1, itsA l), (2, .ptr 2 0 0 0), (7, ye (perfL m)), (4, .ptr 4 0 0 0), (5, .ptr 5 0 0 0), (6, .ptr 6 0 0 0)], [(9, .hold us.toList [.ptr 4 0 0 0, .ptr 5 0 0 0, .ptr 6 0 0 0]), (4, .box [.nils] 59), (5, .box [.nils] 114), (6, .box [iv 0] 28), (2, .box (mnE m) 32)]⟩) (yA) ?_);refine yy.imp (zsS [(5, 32)] (zO l (by omega))) (yA)
  ·obtain rfl : (4, [2, 3, 1, 0]) = c := by injection hc
   refine yh rfl (yF (st0 := ⟨[(29, mnA m), (30, ye (perfL m)), (31, itsA l), (1, itsA l), (2, .ptr 2 0 0 0), (7, ye (perfL m)), (4, .ptr 4 0 0 0), (5, .ptr 5 0 0 0), (6, .ptr 6 0 0 0), (32, .own 32)], [(9, .hold us.toList [.ptr 4 0 0 0, .ptr 5 0 0 0, .ptr 6 0 0 0]), (4, .box [.nils] 59), (5, .box [.nils] 114), (6, .box [iv 0] 28), (2, .box (mnE m) 32), (32, .row itE l 120 12)]⟩) (yA) ?_);refine yy.imp (yp (Pur.stepA y9) rfl rfl) (yA)
  ·obtain rfl : (5, [2, 3, 1, 0, 4]) = c := by injection hc
   refine yh rfl (yF (st0 := ⟨[(29, mnA m), (30, ye (perfL m)), (31, itsA l), (1, itsA l), (2, .ptr 2 0 0 0), (7, ye (perfL m)), (4, .ptr 4 0 0 0), (5, .ptr 5 0 0 0), (6, .ptr 6 0 0 0), (33, .agg [iv m.Max, iv m.Mod, iv m.Tem, iv m.Pro, ye (perfL m), .own 32, .nils])], [(9, .hold us.toList [.ptr 4 0 0 0, .ptr 5 0 0 0, .ptr 6 0 0 0]), (4, .box [.nils] 59), (5, .box [.nils] 114), (6, .box [iv 0] 28), (2, .box (mnE m) 32), (32, .row itE l 120 12)]⟩) (yA) ?_);refine yy.imp (yp (zfH (k := 34) rfl rfl) rfl rfl) (yA)
  ·obtain rfl : (6, [4, 2, 1, 0, 3, 5]) = c := by injection hc
   refine yh rfl (yF (st0 := ⟨[(29, mnA m), (30, ye (perfL m)), (31, itsA l), (1, itsA l), (2, .ptr 2 0 0 0), (7, ye (perfL m)), (4, .ptr 4 0 0 0), (5, .ptr 5 0 0 0), (6, .ptr 6 0 0 0), (34, .ptr 34 0 0 0)], [(9, .hold us.toList [.ptr 4 0 0 0, .ptr 5 0 0 0, .ptr 6 0 0 0]), (4, .box [.nils] 59), (5, .box [.nils] 114), (6, .box [iv 0] 28), (2, .box (mnE m) 32), (34, .box [iv m.Max, iv m.Mod, iv m.Tem, iv m.Pro, ye (perfL m), .own 32, .nils] 158), (32, .row itE l 120 12)]⟩) (yA) ?_);refine yy.imp (yp (Pur.stepA y9) rfl rfl) (yA)
  ·exact absurd hc (by simp)
 iterate 2 apply yn
 refine X.imp (st' := ⟨[(4, .ptr 4 0 0 0), (5, .ptr 5 0 0 0), (6, .ptr 6 0 0 0), (10, .ptr 34 0 0 0)], [(9, .hold us.toList [.ptr 4 0 0 0, .ptr 5 0 0 0, .ptr 6 0 0 0]), (4, .box [.nils] 59), (5, .box [.nils] 114), (6, .box [iv 0] 28), (34, .box [iv m.Max, iv m.Mod, iv m.Tem, iv m.Pro, ye (perfL m), itsA l, .own 40] 158), (40, .row intE [] 3 1)]⟩) (((zhG intE 3 1 34 40 6 158 _ [iv m.Max, iv m.Mod, iv m.Tem, iv m.Pro, ye (perfL m), .own 32, .own 40] rfl rfl rfl rfl).trans (Imp.freeze (k := 32) rfl)).trans yd) ?_;apply yo;refine yx ?_;have hz1 : [] = (lvN m (perfL m) l 0).1 := by unfold lvN; rfl
 have hb0 : ([iv m.Max, iv m.Mod, iv m.Tem, iv m.Pro, ye (perfL m), itsA l, .own 40] : List AV) = [iv m.Max, iv m.Mod, iv m.Tem, iv m.Pro, ye (perfL m), itsA (lvN m (perfL m) l 0).2, .own 40] := by unfold lvN; rfl
 apply X.block;refine zt4 (ι := List Int × Nat) (fun p => [(4, .ptr 4 0 0 0), (5, .ptr 5 0 0 0), (6, .ptr 6 0 0 0), (10, .ptr 34 0 0 0), (11, .fn 100 [])]) (fun p => [(9, .hold us.toList [.ptr 4 0 0 0, .ptr 5 0 0 0, .ptr 6 0 0 0]), (4, .box [.nils] 59), (5, .box [.nils] 114), (6, .box [iv 0] 28), (34, .box [iv m.Max, iv m.Mod, iv m.Tem, iv m.Pro, ye p.1, itsA (lvN m (perfL m) l p.2).2, .own 40] 158), (40, .row intE (lvN m (perfL m) l p.2).1 3 1)]) (fun p => (perfL m).drop p.2 = p.1 /\ LvJ m (perfL m) l p.2) (fun p => p.1.length) (perfL m, 0) (fun p => [(4, .ptr 4 0 0 0), (5, .ptr 5 0 0 0), (6, .ptr 6 0 0 0), (10, .ptr 34 0 0 0), (11, .nilf)]) (fun p => [(9, .hold us.toList [.ptr 4 0 0 0, .ptr 5 0 0 0, .ptr 6 0 0 0]), (4, .box [.nils] 59), (5, .box [.nils] 114), (6, .box [iv 0] 28), (34, .box [iv m.Max, iv m.Mod, iv m.Tem, iv m.Pro, ye [], itsA (lvN m (perfL m) l p.2).2, .own 40] 158), (40, .row intE (lvN m (perfL m) l p.2).1 3 1)]) (fun p => p.2 = (perfL m).length /\ LvJ m (perfL m) l p.2) (fun p hk => ?_) (fun p hk => ?_) ⟨rfl, ztC _ _ _⟩ yf
 ·obtain ⟨hn, hJ⟩ := hk;have hd := zw0 hm hi hJ hn;obtain ⟨hE, hV, hW⟩ := hd;apply yn;apply yg;refine ya ?_;refine ya (hs := by exact zkx ⟨_, _, _, Tryz.underlying160⟩ rfl) ?_;refine gd ?_ ?_<;>intro hc
  ·cases hc
  apply X.exit;apply yn;refine X.imp (st' := ⟨[(4, .ptr 4 0 0 0), (5, .ptr 5 0 0 0), (6, .ptr 6 0 0 0), (10, .ptr 34 0 0 0)], [(9, .hold us.toList [.ptr 4 0 0 0, .ptr 5 0 0 0, .ptr 6 0 0 0]), (4, .box [.nils] 59), (5, .box [.nils] 114), (6, .box [iv 0] 28), (34, .box [iv m.Max, iv m.Mod, iv m.Tem, iv m.Pro, ye [], itsA (lvN m (perfL m) l p.2).2, ye (lvN m (perfL m) l p.2).1] 158)]⟩) ((Imp.freeze (k := 40) rfl).trans yd) ?_;refine X.drawQ [⟨0, 40, .ptr 34 0 0 0, []⟩, ⟨1, 41, .ptr 34 0 0 0, [0]⟩, ⟨2, 42, .ptr 34 0 0 (0 + 6), [0, 1]⟩, ⟨3, 43, ye (lvN m (perfL m) l p.2).1, [0, 1, 2]⟩, ⟨4, 44, .ptr 34 0 0 0, []⟩, ⟨5, 45, .ptr 34 0 0 0, [4]⟩, ⟨6, 46, .ptr 34 0 0 (0 + 5), [4, 5]⟩, ⟨7, 47, itsA (lvN m (perfL m) l p.2).2, [4, 5, 6]⟩] [(8, [2, 1, 0, 3]), (9, [6, 5, 4, 3, 2, 1, 0, 8, 7]), (10, [8, 7, 6, 5, 4, 3, 2, 1, 0, 9])] (fun j => match j with | 0 => ⟨[(4, .ptr 4 0 0 0), (5, .ptr 5 0 0 0), (6, .ptr 6 0 0 0), (10, .ptr 34 0 0 0)], [(9, .hold us.toList [.ptr 4 0 0 0, .ptr 5 0 0 0, .ptr 6 0 0 0]), (4, .box [.nils] 59), (5, .box [.nils] 114), (6, .box [iv 0] 28), (34, .box [iv m.Max, iv m.Mod, iv m.Tem, iv m.Pro, ye [], itsA (lvN m (perfL m) l p.2).2, ye (lvN m (perfL m) l p.2).1] 158)]⟩ | 1 => ⟨[(4, .ptr 4 0 0 0), (5, .ptr 5 0 0 0), (6, .ptr 6 0 0 0), (10, .ptr 34 0 0 0)], [(9, .hold us.toList [.ptr 4 0 0 0, .ptr 5 0 0 0, .ptr 6 0 0 0]), (4, .box [ye (lvN m (perfL m) l p.2).1] 59), (5, .box [.nils] 114), (6, .box [iv 0] 28), (34, .box [iv m.Max, iv m.Mod, iv m.Tem, iv m.Pro, ye [], itsA (lvN m (perfL m) l p.2).2, ye (lvN m (perfL m) l p.2).1] 158)]⟩ | 2 => ⟨[(4, .ptr 4 0 0 0), (5, .ptr 5 0 0 0), (6, .ptr 6 0 0 0), (10, .ptr 34 0 0 0)], [(9, .hold us.toList [.ptr 4 0 0 0, .ptr 5 0 0 0, .ptr 6 0 0 0]), (4, .box [ye (lvN m (perfL m) l p.2).1] 59), (5, .box [itsA (lvN m (perfL m) l p.2).2] 114), (6, .box [iv 0] 28), (34, .box [iv m.Max, iv m.Mod, iv m.Tem, iv m.Pro, ye [], itsA (lvN m (perfL m) l p.2).2, ye (lvN m (perfL m) l p.2).1] 158)]⟩ | _ => ⟨[(4, .ptr 4 0 0 0), (5, .ptr 5 0 0 0), (6, .ptr 6 0 0 0), (10, .ptr 34 0 0 0)], [(9, .hold us.toList [.ptr 4 0 0 0, .ptr 5 0 0 0, .ptr 6 0 0 0]), (4, .box [ye (lvN m (perfL m) l p.2).1] 59), (5, .box [itsA (lvN m (perfL m) l p.2).2] 114), (6, .box [iv 0] 28), (34, .box [iv m.Max, iv m.Mod, iv m.Tem, iv m.Pro, ye [], itsA (lvN m (perfL m) l p.2).2, ye (lvN m (perfL m) l p.2).1] 158)]⟩) mo (by kernel_rfl) (za7 (yd)) (fun j hj => ?_) (fun j c hc β hβ => ?_) ?_
  ·rcases j with _ | _ | _ | _ | j
   ·exact zg
   ·exact zg
   ·exact zg
   ·exact zg
   ·exact absurd (show j + 4 <= 3 from hj) (by omega)
  ·rcases j with _ | _ | _ | j
   ·obtain rfl : (8, [2, 1, 0, 3]) = c := by injection hc
    refine yh rfl (yF (st0 := ⟨[(40, .ptr 34 0 0 0), (41, .ptr 34 0 0 0), (42, .ptr 34 0 0 (0 + 6)), (43, ye (lvN m (perfL m) l p.2).1), (44, .ifb (β 4) (.ptr 34 0 0 0)), (45, .ifb (β 5) (.ptr 34 0 0 0)), (46, .ifb (β 6) (.ptr 34 0 0 (0 + 5))), (47, .ifb (β 7) (itsA (lvN m (perfL m) l p.2).2)), (4, .ptr 4 0 0 0), (5, .ptr 5 0 0 0), (6, .ptr 6 0 0 0), (10, .ptr 34 0 0 0)], [(9, .hold us.toList [.ptr 4 0 0 0, .ptr 5 0 0 0, .ptr 6 0 0 0]), (4, .box [.nils] 59), (5, .box [.nils] 114), (6, .box [iv 0] 28), (34, .box [iv m.Max, iv m.Mod, iv m.Tem, iv m.Pro, ye [], itsA (lvN m (perfL m) l p.2).2, ye (lvN m (perfL m) l p.2).1] 158)]⟩) (yA) ?_);refine yy.imp (zag rfl rfl rfl rfl TyK.h (by simp)) (yA)
   ·obtain rfl : (9, [6, 5, 4, 3, 2, 1, 0, 8, 7]) = c := by injection hc
    refine yh rfl (yF (st0 := ⟨[(40, .ptr 34 0 0 0), (41, .ptr 34 0 0 0), (42, .ptr 34 0 0 (0 + 6)), (43, ye (lvN m (perfL m) l p.2).1), (44, .ptr 34 0 0 0), (45, .ptr 34 0 0 0), (46, .ptr 34 0 0 (0 + 5)), (47, itsA (lvN m (perfL m) l p.2).2), (4, .ptr 4 0 0 0), (5, .ptr 5 0 0 0), (6, .ptr 6 0 0 0), (10, .ptr 34 0 0 0)], [(9, .hold us.toList [.ptr 4 0 0 0, .ptr 5 0 0 0, .ptr 6 0 0 0]), (4, .box [ye (lvN m (perfL m) l p.2).1] 59), (5, .box [.nils] 114), (6, .box [iv 0] 28), (34, .box [iv m.Max, iv m.Mod, iv m.Tem, iv m.Pro, ye [], itsA (lvN m (perfL m) l p.2).2, ye (lvN m (perfL m) l p.2).1] 158)]⟩) (yA) ?_);refine yy.imp (zag rfl rfl rfl rfl TyK.h (by simp)) (yA)
   ·obtain rfl : (10, [8, 7, 6, 5, 4, 3, 2, 1, 0, 9]) = c := by injection hc
    refine yh rfl (yF (st0 := ⟨[(40, .ptr 34 0 0 0), (41, .ptr 34 0 0 0), (42, .ptr 34 0 0 (0 + 6)), (43, ye (lvN m (perfL m) l p.2).1), (44, .ptr 34 0 0 0), (45, .ptr 34 0 0 0), (46, .ptr 34 0 0 (0 + 5)), (47, itsA (lvN m (perfL m) l p.2).2), (4, .ptr 4 0 0 0), (5, .ptr 5 0 0 0), (6, .ptr 6 0 0 0), (10, .ptr 34 0 0 0)], [(9, .hold us.toList [.ptr 4 0 0 0, .ptr 5 0 0 0, .ptr 6 0 0 0]), (4, .box [ye (lvN m (perfL m) l p.2).1] 59), (5, .box [itsA (lvN m (perfL m) l p.2).2] 114), (6, .box [iv 0] 28), (34, .box [iv m.Max, iv m.Mod, iv m.Tem, iv m.Pro, ye [], itsA (lvN m (perfL m) l p.2).2, ye (lvN m (perfL m) l p.2).1] 158)]⟩) (yA) ?_);refine yy.imp (zag rfl rfl rfl rfl TyK.h (by simp)) (yA)
   ·exact absurd hc (by simp)
  refine X.ret ?_;refine zeq (kD := 9) (rv := [.cell 4 59, .cell 5 114, .cell 6 28]) [(2000004, 4), (2000005, 5), (2000006, 6)] (ze0 (lvN m (perfL m) l p.2).1 (lvN m (perfL m) l p.2).2) (.inl ⟨rfl, rfl⟩) rfl rfl Imp.refl rfl (LeL.refl _) (.many (by decide) (.cons (.cellS rfl rfl rfl TyK.h (LeV.eq (congrArg (fun z => ye z) hV))) (.cons (.cellS rfl rfl rfl TyK.h (LeV.eq (congrArg (fun z => itsA z) hW))) (.cons (.cellS rfl rfl rfl TyK.h (LeV.eq (congrArg (fun z => AV.int .i64 z) hE.symm))) .nil)))) rfl rfl rfl (by repeat' (first | exact True.intro | refine And.intro ⟨_, _, rfl, rfl, LeB.refl _, rfl⟩ ?_)) rfl rfl rfl
 ·obtain ⟨hdr, hJ⟩ := hk;apply yn;apply yg;refine ya ?_;refine ya (hs := by exact zmx ⟨_, _, _, Tryz.underlying160⟩ rfl) ?_;refine gd ?_ ?_<;>intro hc
  ·apply yr;apply X.block;obtain ⟨rs, n⟩ := p;have hlen : (lvN m (perfL m) l n).2.length = l.length := hJ.len;have hcho : (lvN m (perfL m) l n).1.length <= n * (2 * l.length + 2) := hJ.cho;have hle : n <= (perfL m).length := hJ.le;rcases rs with _ | ⟨k, r⟩
   ·refine gq ?_;refine zaC [(2000000, 34), (2000001, 40)] (zgL m (lvN m (perfL m) l n).2 (lvN m (perfL m) l n).1) ?_;refine yx ?_
    have hn : n = (perfL m).length := by
     have h1 := congrArg List.length hdr;rw [List.length_drop] at h1;have h2 : (perfL m).length - n = 0 := h1;have h3 : n <= (perfL m).length := hle;omega
    exact Or.inr ⟨([], n), yd, hn, hJ⟩
   ·have hk : (perfL m)[n]? = some k := by
     have h1 := congrArg (fun z => z[0]?) hdr;simpa using h1
    have hdr2 : (perfL m).drop (n + 1) = r := by
     have h1 := congrArg (fun z => z.drop 1) hdr;simpa using h1
    have hkb := zrJ hk;have hl2 : (lvN m (perfL m) l n).2.length <= 1000 := by rw [hlen]; exact hl
    have hC2 : (lvN m (perfL m) l n).1.length <= 1000000 := by
     have h1 : n * (2 * l.length + 2) <= 4 * (2 * l.length + 2) := Nat.mul_le_mul_right _ (Nat.le_trans hle hp4);have h2 := Nat.le_trans hcho h1;omega
    by_cases h0 : cuE m k (lvN m (perfL m) l n).2 = 0
    ·have hQ := zk4 (m := m) (l := l) hk;obtain ⟨hs1, hs2⟩ := hQ;have hbx : ([iv m.Max, iv m.Mod, iv m.Tem, iv m.Pro, ye r, itsA (apV m k (lvN m (perfL m) l n).2 (cuV m k (lvN m (perfL m) l n).2)), .own 41] : List AV) = [iv m.Max, iv m.Mod, iv m.Tem, iv m.Pro, ye r, itsA (lvN m (perfL m) l (n + 1)).2, .own 41] := by rw [hs2]
     refine gq ?_;refine zaC [(2000000, 34), (2000001, 40), (2000012, 41)] (zhM m (lvN m (perfL m) l n).2 (lvN m (perfL m) l n).1 k r hkb hl2 hC2 h0) ?_;refine yx ?_;refine Or.inl ⟨(r, n + 1), (yd (ts := [(4, .ptr 4 0 0 0), (5, .ptr 5 0 0 0), (6, .ptr 6 0 0 0), (10, .ptr 34 0 0 0), (11, .fn 100 [])]) (hs := [(9, .hold us.toList [.ptr 4 0 0 0, .ptr 5 0 0 0, .ptr 6 0 0 0]), (4, .box [.nils] 59), (5, .box [.nils] 114), (6, .box [iv 0] 28), (34, .box [iv m.Max, iv m.Mod, iv m.Tem, iv m.Pro, ye r, itsA (apV m k (lvN m (perfL m) l n).2 (cuV m k (lvN m (perfL m) l n).2)), .own 41] 158), (41, .row intE ((lvN m (perfL m) l n).1 ++ cuV m k (lvN m (perfL m) l n).2) 3 1)])).trans ((yf (ts := [(4, .ptr 4 0 0 0), (5, .ptr 5 0 0 0), (6, .ptr 6 0 0 0), (10, .ptr 34 0 0 0), (11, .fn 100 [])]) (hs := [(9, .hold us.toList [.ptr 4 0 0 0, .ptr 5 0 0 0, .ptr 6 0 0 0]), (4, .box [.nils] 59), (5, .box [.nils] 114), (6, .box [iv 0] 28), (34, .box [iv m.Max, iv m.Mod, iv m.Tem, iv m.Pro, ye r, itsA (lvN m (perfL m) l (n + 1)).2, .own 41] 158), (41, .row intE (lvN m (perfL m) l (n + 1)).1 3 1)])).trans ((Imp.mv 41 40 rfl rfl).trans yd)), ⟨hdr2, hJ.s hk h0⟩, by simp⟩
    ·have hd := zwZ hm hi hJ hk h0;obtain ⟨hE, hV, hW⟩ := hd;apply yo;(iterate 2 refine ya ?_);refine zsP [(2000000, 34), (2000001, 40)] (zga m (lvN m (perfL m) l n).2 (lvN m (perfL m) l n).1 k r hkb hl2 hC2 h0) ?_;refine zeq (kD := 9) (rv := [.cell 4 59, .cell 5 114, .cell 6 28]) [(2000004, 4), (2000005, 5), (2000006, 6)] (ze1 (cuE m k (lvN m (perfL m) l n).2)) (.inr (.inr ⟨_, rfl, rfl⟩)) rfl rfl Imp.refl rfl (LeL.refl _) (.many (by decide) (.cons (.cellS rfl rfl rfl TyK.h (by rw [hV]; exact LeV.nils _)) (.cons (.cellS rfl rfl rfl TyK.h (by rw [hW]; exact LeV.nils _)) (.cons (.cellS rfl rfl rfl TyK.h (LeV.eq (congrArg (fun z => AV.int .i64 z) hE.symm))) .nil)))) rfl rfl rfl (by repeat' (first | exact True.intro | refine And.intro ⟨_, _, rfl, rfl, LeB.refl _, rfl⟩ ?_)) rfl rfl rfl
  ·cases hc
end Go.Rse
