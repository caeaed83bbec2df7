/-
  Walks.
-/
import Derived.Test.YtkpbljifckjeoaaGreatDoorYJLvl5
set_option linter.unusedSimpArgs false
set_option linter.unusedVariables false
namespace Go.Rse
open Go Go.Proofs
section
variable {P : Program} {C : Ctx} {st : St} {ty : TypeId} {Q : Exit -> St -> Prop} {ops : Array Oper} {ms : List Nat} {hid : List Nat} {i m : Nat} {fs : List FactM} {o : Oper} {x : AV} {nb : Option (Nat × Blk)}
theorem ChM.lo {d : Nat} {α : Type} {enc : α -> List AV} {l : List α} {E s : Nat} {f : FuncId} {caps xs : List AV} {fop : Operand} {args : Array Operand} {ts : Array TypeId} (q : Nat) (hc : FnOW P f (xs ++ caps) enc l E s fun _ _ _ => True) (hfl : ∀ x, AV.flat.flatL (enc x) = true) (h : ChM P C ops ms st hid Q (i + 1) (⟨i, some d, .own q, some (q, .row enc l E s), m, []⟩ :: fs)) (hm : ms[i]? = some m := by exact rfl) (ho : ops[i]? = some o := by exact rfl) (hg : o.guard = none := by exact rfl) (hod : o.dst = some d := by exact rfl)
 (hop : o.op = .call { callee := .value fop, args := args, argTypes := ts } := by exact rfl) (hf : ev (stV st hid m fs []) fop = some (.fn f caps) := by exact rfl) (hx : evs (stV st hid m fs []) args.toList = some xs := by exact rfl) (hd : d.blt C.n = true := by exact rfl) : ChM P C ops ms st hid Q i fs :=
 .step hm ho hg (by rw [hop]; exact zgJ (ι := Unit) (stF := fun _ => stV st hid m fs []) (caps := fun _ => caps) (xs := fun _ => xs) q (fun g a w hr => zvO Imp.refl hr) (fun _ => hc) hfl (fun _ => hf) (fun _ => hx) (fun _ => LeL.refl _)) (by rw [hod]; exact hd) (by rw [hod]; exact h)
end
instance : ZcK Tryz.prog 243 [.nils, .int .i64 0, .int .i64 0, .int .i64 0, .val (.map none)] := ⟨⟨_, zww, rfl⟩⟩
attribute [local irreducible] Pur yr yw Ex X Fn Imp LeV LeB FnO It yx FnW FnOW
theorem set2 {l : List Ite} {i : Nat} {x y : Ite} : (l.set i x).set i y = l.set i y := by rw [List.set_set]
theorem zoY {l : List Ite} {i : Nat} {x y : Ite} (h : l[i]? = some x) : (l.set i y)[i]? = some y := by
 have := (List.getElem?_eq_some_iff.1 h).1;rw [List.getElem?_set]; simp [this]
attribute [local irreducible] addV addE subV subE
theorem zfS (m : Mn) (k : Int) (l : List Ite) (h0 : -9223372036854775808 <= k) (h1 : k <= 9223372036854775807) (hl : l.length <= 1000000) (hE : ¬ segE m k l = 0) : Fn Tryz.prog 178 [mnA m, iv k, itsA l] (.tup [.val (.pointer none), smsA [], iv (segE m k l)]) := by
 refine Fn.go Tryz.func178 Tryz.ntmps178 (fun g w d => ?_);refine gq ?_;refine yb (zbg m k l h0 h1 hl) ?_;refine gd ?_ ?_<;>intro hc1
 ·apply yg;refine zmo ?_;refine X.ret ?_;refine RetQ.imp (ye (ts := [(6, .val (.pointer none)), (7, smsA []), (8, iv (segE m k l))]) (hs := [])) ?_;refine RetQ.ret (.many (by decide) (.cons (.tmp rfl (LeV.eq ?_)) (.cons (.tmp rfl (LeV.eq ?_)) (.cons (.tmp rfl (LeV.eq ?_)) .nil))));all_goals (first | rfl | (simp_all; done))
 exact absurd hc1 hE
theorem zay (m : Mn) (k : Int) (l : List Ite) (h0 : -9223372036854775808 <= k) (h1 : k <= 9223372036854775807) (hl : l.length <= 1000000) (hE : segE m k l = 0) : FnO Tryz.prog 178 [mnA m, iv k, itsA l] [] [] (.tup [.ptr 36 0 0 0, smsA (segV m k l), iv 0]) [(36, .box [.own 30, iv k, iv (unT m k).N, iv (unT m k).D, .mp 34] 243), (30, .row itE l 120 12), (34, .mpb (fun i : Int => .int .i64 i) AV.bool [])] := by
 refine FnO.introX (ts := [(0, mnA m), (1, iv k), (2, itsA l)]) (rv := [.tmp 6, .tmp 7, .tmp 8]) (n := 38) (cs := []) (by kernel_rfl) Tryz.func178 rfl Tryz.ntmps178 rfl rfl (by simp) rfl rfl rfl rfl (fun g w d vs => ?_);refine gq ?_;refine yb (zbg m k l h0 h1 hl) ?_;refine gd ?_ ?_<;>intro hc1
 ·exact absurd hE hc1
 refine gq ?_;refine yb (zeX m k h0 h1) ?_;refine gq ?_;refine zf [6,7,8,29,30,31,32,33,34,35,36,37] [0,1,3,0,0,0,63,127,0,255,1023,2047] mo ?_;refine yc ?_;refine ChM.lo 30 (zP l (by omega)).ow (fun _ => rfl) ?_;iterate 3 refine yc ?_
 refine ChM.step rfl rfl rfl (zfQ (k := 34) (fun i : Int => .int .i64 i) AV.bool) rfl ?_;refine yc ?_;refine ChM.step rfl rfl rfl (zfJ (k := 36) rfl rfl) rfl ?_;iterate 4 refine yc ?_
 refine yE ?_;apply Ex.nil;refine X.ret ?_;refine ziE.mk [(6, .ptr 36 0 0 0), (7, smsA (segV m k l)), (8, iv 0)] [] (.inr rfl) (.many (by decide) (.cons (.tmp rfl (LeV.eq ?_)) (.cons (.tmp rfl (LeV.eq ?_)) (.cons (.tmp rfl (LeV.eq ?_)) .nil))));all_goals (rfl)
set_option maxHeartbeats 2000000 in
theorem zda (l : List Ite) (k : Int) (u : Tm) (L : List (Int × Bool)) (i : Nat) (x : Ite) (hx : l[i]? = some x) : FnO Tryz.prog 236 [.ptr 2000001 12 i 0, .ptr 2000001 12 i 10, .ptr 2000003 0 0 0] [(2000003, .box [.ptr 2000000 0 0 0] 235), (2000000, .box [.own 2000001, iv k, iv u.N, iv u.D, .mp 2000002] 243), (2000001, .row itE (l) 120 12), (2000002, .mpb (fun i : Int => .int .i64 i) AV.bool (L))] [2000003, 2000000, 2000001, 2000002] (iv (max (subE x.Dur u) (addE x.After u))) [(2000003, .box [.ptr 2000000 0 0 0] 235), (2000000, .box [.own 2000001, iv k, iv u.N, iv u.D, .mp 2000002] 243), (2000001, .row itE (l.set i (zbZ u x)) 120 12), (2000002, .mpb (fun i : Int => .int .i64 i) AV.bool (L))] := by
 have hx1 := zoY (y := { x with Dur := subV x.Dur u }) hx;have hst : (l.set i { x with Dur := subV x.Dur u }).set i (zbZ u x) = l.set i (zbZ u x) := set2;refine FnO.introX (ts := [(0, .ptr 2000001 12 i 0), (1, .ptr 2000001 12 i 10), (2, .ptr 2000003 0 0 0)]) (rv := [.tmp 5]) (n := 39) (cs := [.ptr 2000003 0 0 0, .ptr 2000000 0 0 0, .own 2000001, .mp 2000002]) (by kernel_rfl) Tryz.func236 rfl Tryz.ntmps236 rfl rfl (by simp) rfl rfl rfl rfl (fun g w d vs => ?_);refine gq ?_;refine zf [8,9,10,11,12,13,14,15,16,17,18,19,20,21,22] [0,0,2,6,14,0,32,96,224,510,1022,2046,2046,4095,12287,28671,65535] mo ?_;iterate 2 refine yc ?_
 refine yc ?_ (hs := by exact yk rfl);refine yc ?_;refine yc ?_ (hs := by exact zO (n := 2) rfl rfl hx rfl rfl (by decide) rfl TyK.h);refine yc ?_;refine yc ?_ (hs := by exact yk rfl);iterate 2 refine yc ?_
 refine yM (zbR x.Dur u) ?_;iterate 3 refine yc ?_
 refine yc ?_ (hs := by exact yk rfl);refine yc ?_;refine zec 12 ⟨[(0, .ptr 2000001 12 i 0), (1, .ptr 2000001 12 i 10), (2, .ptr 2000003 0 0 0), (6, iv (subE x.Dur u)), (7, iv 0)], [(1000001, .hold vs [.ptr 2000003 0 0 0, .ptr 2000000 0 0 0, .own 2000001, .mp 2000002]), (2000003, .box [.ptr 2000000 0 0 0] 235), (2000000, .box [.own 2000001, iv k, iv u.N, iv u.D, .mp 2000002] 243), (2000001, .row itE (l.set i { x with Dur := subV x.Dur u }) 120 12), (2000002, .mpb (fun i : Int => .int .i64 i) AV.bool (L))]⟩ (fun Q hQ => ?_) (fun Q hQ => ?_) ?_
 ·refine Ex.mo (hs := zp (n := 2) x { x with Dur := subV x.Dur u } rfl rfl hx (fun _ => rfl) (by decide) rfl rfl rfl (by decide) rfl rfl rfl TyK.h) ?_;refine ya ?_;exact Ex.imp yd hQ
 ·refine Ex.mo (hs := zp (n := 2) x { x with Dur := subV x.Dur u } rfl rfl hx (fun _ => rfl) (by decide) rfl rfl rfl (by decide) rfl rfl rfl TyK.h) ?_;iterate 2 refine ya ?_
  exact Ex.imp yd hQ
 refine gq ?_;refine zf [23,24,25,26,27,28,29,30,31,32,33,34,35] [0,0,2,6,0,16,48,112,254,510,1022,1022,2047,6143,16383] mo ?_;iterate 2 refine yc ?_
 refine yc ?_ (hs := by exact yk rfl);refine yc ?_ (hs := by exact zO (n := 2) rfl rfl hx1 rfl rfl (by decide) rfl TyK.h);refine yc ?_;refine yc ?_ (hs := by exact yk rfl);iterate 2 refine yc ?_
 refine yM (zbj x.After u) ?_;iterate 3 refine yc ?_
 refine yc ?_ (hs := by exact yk rfl);refine zec 11 ⟨[(6, iv (subE x.Dur u)), (7, iv (addE x.After u))], [(1000001, .hold vs [.ptr 2000003 0 0 0, .ptr 2000000 0 0 0, .own 2000001, .mp 2000002]), (2000003, .box [.ptr 2000000 0 0 0] 235), (2000000, .box [.own 2000001, iv k, iv u.N, iv u.D, .mp 2000002] 243), (2000001, .row itE ((l.set i { x with Dur := subV x.Dur u }).set i (zbZ u x)) 120 12), (2000002, .mpb (fun i : Int => .int .i64 i) AV.bool (L))]⟩ (fun Q hQ => ?_) (fun Q hQ => ?_) ?_
 ·refine Ex.mo (hs := zp (n := 2) { x with Dur := subV x.Dur u } (zbZ u x) rfl rfl hx1 (fun _ => rfl) (by decide) rfl rfl rfl (by decide) rfl rfl rfl TyK.h) ?_;refine ya ?_;exact Ex.imp yd hQ
 ·refine Ex.mo (hs := zp (n := 2) { x with Dur := subV x.Dur u } (zbZ u x) rfl rfl hx1 (fun _ => rfl) (by decide) rfl rfl rfl (by decide) rfl rfl rfl TyK.h) ?_;iterate 2 refine ya ?_
  exact Ex.imp yd hQ
 apply yI;iterate 2 refine ya ?_
 refine ya (hs := by exact zmk rfl rfl) ?_;refine yu ?_;refine X.ret ?_;refine zfR (st' := ⟨[(5, iv (max (subE x.Dur u) (addE x.After u)))], [(1000001, .hold vs [.ptr 2000003 0 0 0, .ptr 2000000 0 0 0, .own 2000001, .mp 2000002]), (2000003, .box [.ptr 2000000 0 0 0] 235), (2000000, .box [.own 2000001, iv k, iv u.N, iv u.D, .mp 2000002] 243), (2000001, .row itE (l.set i (zbZ u x)) 120 12), (2000002, .mpb (fun i : Int => .int .i64 i) AV.bool (L))]⟩) (by first | exact ye | exact yd) ?_;refine ziE.mk [(5, iv (max (subE x.Dur u) (addE x.After u)))] [] (.inr rfl) (.one (.tmp rfl (LeV.eq ?_)));all_goals (rfl)
set_option maxHeartbeats 2000000 in
theorem zdb (l : List Ite) (k : Int) (u : Tm) (L : List (Int × Bool)) (i : Nat) (x : Ite) (hx : l[i]? = some x) : FnO Tryz.prog 236 [.ptr 2000001 12 i 0, .ptr 2000001 12 i 8, .ptr 2000003 0 0 0] [(2000003, .box [.ptr 2000000 0 0 0] 235), (2000000, .box [.own 2000001, iv k, iv u.N, iv u.D, .mp 2000002] 243), (2000001, .row itE (l) 120 12), (2000002, .mpb (fun i : Int => .int .i64 i) AV.bool (L))] [2000003, 2000000, 2000001, 2000002] (iv (max (subE x.Dur u) (addE x.Before u))) [(2000003, .box [.ptr 2000000 0 0 0] 235), (2000000, .box [.own 2000001, iv k, iv u.N, iv u.D, .mp 2000002] 243), (2000001, .row itE (l.set i (zb0 u x)) 120 12), (2000002, .mpb (fun i : Int => .int .i64 i) AV.bool (L))] := by
 have hx1 := zoY (y := { x with Dur := subV x.Dur u }) hx;have hst : (l.set i { x with Dur := subV x.Dur u }).set i (zb0 u x) = l.set i (zb0 u x) := set2;refine FnO.introX (ts := [(0, .ptr 2000001 12 i 0), (1, .ptr 2000001 12 i 8), (2, .ptr 2000003 0 0 0)]) (rv := [.tmp 5]) (n := 39) (cs := [.ptr 2000003 0 0 0, .ptr 2000000 0 0 0, .own 2000001, .mp 2000002]) (by kernel_rfl) Tryz.func236 rfl Tryz.ntmps236 rfl rfl (by simp) rfl rfl rfl rfl (fun g w d vs => ?_);refine gq ?_;refine zf [8,9,10,11,12,13,14,15,16,17,18,19,20,21,22] [0,0,2,6,14,0,32,96,224,510,1022,2046,2046,4095,12287,28671,65535] mo ?_;iterate 2 refine yc ?_
 refine yc ?_ (hs := by exact yk rfl);refine yc ?_;refine yc ?_ (hs := by exact zO (n := 2) rfl rfl hx rfl rfl (by decide) rfl TyK.h);refine yc ?_;refine yc ?_ (hs := by exact yk rfl);iterate 2 refine yc ?_
 refine yM (zbR x.Dur u) ?_;iterate 3 refine yc ?_
 refine yc ?_ (hs := by exact yk rfl);refine yc ?_;refine zec 12 ⟨[(0, .ptr 2000001 12 i 0), (1, .ptr 2000001 12 i 8), (2, .ptr 2000003 0 0 0), (6, iv (subE x.Dur u)), (7, iv 0)], [(1000001, .hold vs [.ptr 2000003 0 0 0, .ptr 2000000 0 0 0, .own 2000001, .mp 2000002]), (2000003, .box [.ptr 2000000 0 0 0] 235), (2000000, .box [.own 2000001, iv k, iv u.N, iv u.D, .mp 2000002] 243), (2000001, .row itE (l.set i { x with Dur := subV x.Dur u }) 120 12), (2000002, .mpb (fun i : Int => .int .i64 i) AV.bool (L))]⟩ (fun Q hQ => ?_) (fun Q hQ => ?_) ?_
 ·refine Ex.mo (hs := zp (n := 2) x { x with Dur := subV x.Dur u } rfl rfl hx (fun _ => rfl) (by decide) rfl rfl rfl (by decide) rfl rfl rfl TyK.h) ?_;refine ya ?_;exact Ex.imp yd hQ
 ·refine Ex.mo (hs := zp (n := 2) x { x with Dur := subV x.Dur u } rfl rfl hx (fun _ => rfl) (by decide) rfl rfl rfl (by decide) rfl rfl rfl TyK.h) ?_;iterate 2 refine ya ?_
  exact Ex.imp yd hQ
 refine gq ?_;refine zf [23,24,25,26,27,28,29,30,31,32,33,34,35] [0,0,2,6,0,16,48,112,254,510,1022,1022,2047,6143,16383] mo ?_;iterate 2 refine yc ?_
 refine yc ?_ (hs := by exact yk rfl);refine yc ?_ (hs := by exact zO (n := 2) rfl rfl hx1 rfl rfl (by decide) rfl TyK.h);refine yc ?_;refine yc ?_ (hs := by exact yk rfl);iterate 2 refine yc ?_
 refine yM (zbj x.Before u) ?_;iterate 3 refine yc ?_
 refine yc ?_ (hs := by exact yk rfl);refine zec 11 ⟨[(6, iv (subE x.Dur u)), (7, iv (addE x.Before u))], [(1000001, .hold vs [.ptr 2000003 0 0 0, .ptr 2000000 0 0 0, .own 2000001, .mp 2000002]), (2000003, .box [.ptr 2000000 0 0 0] 235), (2000000, .box [.own 2000001, iv k, iv u.N, iv u.D, .mp 2000002] 243), (2000001, .row itE ((l.set i { x with Dur := subV x.Dur u }).set i (zb0 u x)) 120 12), (2000002, .mpb (fun i : Int => .int .i64 i) AV.bool (L))]⟩ (fun Q hQ => ?_) (fun Q hQ => ?_) ?_
 ·refine Ex.mo (hs := zp (n := 2) { x with Dur := subV x.Dur u } (zb0 u x) rfl rfl hx1 (fun _ => rfl) (by decide) rfl rfl rfl (by decide) rfl rfl rfl TyK.h) ?_;refine ya ?_;exact Ex.imp yd hQ
 ·refine Ex.mo (hs := zp (n := 2) { x with Dur := subV x.Dur u } (zb0 u x) rfl rfl hx1 (fun _ => rfl) (by decide) rfl rfl rfl (by decide) rfl rfl rfl TyK.h) ?_;iterate 2 refine ya ?_
  exact Ex.imp yd hQ
 apply yI;iterate 2 refine ya ?_
 refine ya (hs := by exact zmk rfl rfl) ?_;refine yu ?_;refine X.ret ?_;refine zfR (st' := ⟨[(5, iv (max (subE x.Dur u) (addE x.Before u)))], [(1000001, .hold vs [.ptr 2000003 0 0 0, .ptr 2000000 0 0 0, .own 2000001, .mp 2000002]), (2000003, .box [.ptr 2000000 0 0 0] 235), (2000000, .box [.own 2000001, iv k, iv u.N, iv u.D, .mp 2000002] 243), (2000001, .row itE (l.set i (zb0 u x)) 120 12), (2000002, .mpb (fun i : Int => .int .i64 i) AV.bool (L))]⟩) (by first | exact ye | exact yd) ?_;refine ziE.mk [(5, iv (max (subE x.Dur u) (addE x.Before u)))] [] (.inr rfl) (.one (.tmp rfl (LeV.eq ?_)));all_goals (rfl)
end Go.Rse
