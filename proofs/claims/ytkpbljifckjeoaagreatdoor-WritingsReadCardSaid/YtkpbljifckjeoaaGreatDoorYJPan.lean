/-
  Rules.
-/
import Derived.Test.YtkpbljifckjeoaaGreatDoorYJRul1
set_option linter.unusedSimpArgs false
set_option linter.unusedVariables false
namespace Go.Rse
open Go Go.RowKit
def zrk (C : Ctx) (pv : Value) (vs : List Value) (cs : List AV) (hs' : List (Nat × Blk)) (e : Exit) (st : St) : Prop :=
 e = pnc pv /\ ∃ ts ex, Imp C st ⟨ts, (kN, .hold vs cs) :: (hs' ++ ex)⟩
theorem zrk.mk {C : Ctx} {pv : Value} {vs : List Value} {cs : List AV} {hs' : List (Nat × Blk)} {st : St} (hi : Imp C st ⟨[], (kN, .hold vs cs) :: (hs' ++ [])⟩ := by exact ye) : zrk C pv vs cs hs' (pnc pv) st := ⟨rfl, [], [], hi⟩
theorem FnP.intro {P : Program} {f : FuncId} {fn : Func} {c : Code} {n : Nat} {az : List AV} {ts : List (Nat × AV)} {pv : Value} {hs hs' : List (Nat × Blk)} {kp : List Nat} {cs : List AV} (hc : zZ P f = true) (hf : P.funcs[f]? = some fn) (hb : fn.body = some c) (hn : fn.ntmps = n)
 (hts : zaQ 0 az = ts) (hlen : az.length <= n) (hkn : (hs.all fun p => !(p.1.beq kN)) = true) (hkn' : (hs'.all fun p => !(p.1.beq kN)) = true) (hkp : kp.mapM (hdr hs) = some cs) (hkp' : kp.mapM (hdr hs') = some cs)
 (h : ∀ g w d vs, X P (C0 n d g w) c ⟨ts, (kN, .hold vs cs) :: hs⟩ (zrk (C0 n d g w) pv vs cs hs')) : FnP P f az hs kp pv hs' := by
 refine ⟨hc, fun d ρ I O w args hsat hargs => (callsIn_wide (n := 0)).1 (callsIn_of_wp_marks hf hb trivial ?_)⟩;subst hts;have hsz : args.length = az.length := hargs.1;let C := C0 n d ⟨ρ, I, O⟩ w
 have hrel : Rel C ⟨zaQ 0 az, (kN, .hold (kp.map ρ) cs) :: hs⟩ ⟨ρ, I, O⟩ { tmps := args.toArray ++ Array.replicate (fn.ntmps - args.toArray.size) undef, defers := [] } w := by
  refine ⟨by simp [hn, C]; omega, Dfs.nil _ _ _, fun t x hx => ?_, ⟨hsat.im, hsat.ob, fun k B hB => ?_⟩, ⟨Im.le_refl _, rfl, rfl, rfl, Nat.le_refl _, Nat.le_refl _, fun _ _ _ _ => ⟨rfl, rfl⟩, fun b y n _ hy => ⟨n, hy⟩⟩⟩
  ·obtain ⟨_, hx'⟩ := zb7 (I := I) (ρ := ρ) az 0 t x hx;simp only [Nat.sub_zero] at hx';have ht : t < args.length := by rw [hsz]; exact (List.getElem?_eq_some_iff.1 hx').1
   have e : (args.toArray ++ Array.replicate (fn.ntmps - args.toArray.size) undef).getD t undef = args[t] := by
    simp [Array.getD_eq_getD_getElem?, Array.getElem?_append, ht]
   rw [e];exact hargs.2 t x _ hx' (lgg ht)
  ·simp only [yj] at hB;cases hbq : kN.beq k <;> simp [hbq] at hB
   ·exact (hsat.blk k B hB).ctx
   ·subst hB;exact zfv (g := ⟨ρ, I, O⟩) hsat hkp
 refine wpIn_mono (h _ w d _ _ _ w hrel) ?_
 rintro e a w' ⟨st, g1, hr1, rfl, ts', ex', himp⟩
 obtain ⟨g2, hr2⟩ := himp g1 a w' hr1;show LeavesInM Fence.wide 0 P fn a.tmps _ a.defers (.panicking [{ v := pv, recovered := false }]) w';obtain ⟨D, hD, hnd, hDr⟩ := hr2.defers;have hpl := hD.plain (C := C) rfl;have hpl : a.defers = D.map mkD ++ [] := by rw [hpl]; simp [C]
 rw [hpl];refine zea (C := C) (st := ⟨ts', (kN, .hold (kp.map ρ) cs) :: (hs' ++ ex')⟩) (tmps := a.tmps) (by simp) (tl := []) (fun g3 w3 hr3 => ?_) D (g := g2) (w := w') (by rw [← hpl]; exact hr2)
 have hs3 : Sat (C0 0 d ⟨ρ, I, O⟩ w) hs' g3 w3 := ⟨hr3.sat.im, hr3.sat.ob, fun k B hB => by
  refine (hr3.sat.blk k B ?_).ctx
  have : kN.beq k = false := by
   cases hb : kN.beq k
   ·rfl
   ·have : kN = k := by simpa using hb
    subst this; rw [zdL hkn'] at hB; simp at hB
  simp [yj, this, zbL, hB]⟩
 have hh := hr3.sat.blk kN (.hold (kp.map ρ) cs) (by simp [yj])
 have hend : ∃ v ρ' I' O', (Ending.panicked [{ v := pv, recovered := false }] = Ending.panicked [{ v := pv, recovered := false }]) /\ Sat (C0 0 d ⟨ρ, I, O⟩ w) hs' ⟨ρ', I', O'⟩ w3 /\ RV I' ρ' (.tup []) v /\ Ext (C0 0 d ⟨ρ, I, O⟩ w) ⟨ρ', I', O'⟩ w3 /\ ∀ n ∈ kp, ρ' n = ρ n :=
  ⟨.tuple #[], g3.ρ, g3.I, g3.O, rfl, hs3, .tup [] [] rfl (fun j c v hc => by simp at hc), ⟨hr3.ext.I, hr3.ext.os, hr3.ext.tape, hr3.ext.output, hr3.ext.drawn, hr3.ext.size, hr3.ext.keep, hr3.ext.own⟩, zdK (ρ := ρ) hs3 hkp' hh⟩
 exact hend
end Go.Rse
namespace Go.Rse
open Go Go.Proofs
section
attribute [local irreducible] Pur yr yw Ex X Fn Imp LeV LeB FnO It yx FnW FnOW FnP
attribute [local irreducible] cuV cuE apV apE leE leC leI lvN lvF ckM perfL ckIE ckIX
theorem zgR (m : Mn) (l : List Ite) (C : List Int) : FnO Tryz.prog 100 [.ptr 2000000 0 0 0] [(2000000, .box [iv m.Max, iv m.Mod, iv m.Tem, iv m.Pro, yf [], itsA l, .own 2000001] 158), (2000001, .row intE (C) 3 1)] [2000000, 2000001] (.nilf) [(2000000, .box [iv m.Max, iv m.Mod, iv m.Tem, iv m.Pro, yf [], itsA l, .own 2000001] 158), (2000001, .row intE (C) 3 1)] := by
 refine FnO.introX (ts := [(0, .ptr 2000000 0 0 0)]) (rv := [.tmp 2]) (n := 75) (cs := [.ptr 2000000 0 0 0, .own 2000001]) (by kernel_rfl) Tryz.func100 rfl Tryz.ntmps100 rfl rfl (by simp) rfl rfl rfl rfl (fun g w d vs => ?_);apply yg;refine yu ?_;apply yl;apply yg;refine ya ?_;refine ya ?_ (hs := by exact yk rfl);refine gd ?_ ?_<;>intro hc1
 ·apply yg;refine yu ?_;refine X.ret ?_;refine ziE.mk [(2, .nilf)] [] (.inr rfl) (.one (.tmp rfl (LeV.eq ?_)));all_goals (rfl)
 exact absurd rfl hc1
theorem zgc (m : Mn) (l : List Ite) (C : List Int) (k : Int) (r : List Int) (hk : 1 <= k /\ k <= 4) (hl : l.length <= 1000) (hC : C.length <= 1000000) (h0 : ¬ cuE m k l = 0) : FnP Tryz.prog 100 [.ptr 2000000 0 0 0] [(2000000, .box [iv m.Max, iv m.Mod, iv m.Tem, iv m.Pro, yf (k :: r), itsA l, .own 2000001] 158), (2000001, .row intE (C) 3 1)] [2000000, 2000001] (ifV 153 .i64 (cuE m k l)) [(2000000, .box [iv m.Max, iv m.Mod, iv m.Tem, iv m.Pro, yf r, itsA l, .own 2000001] 158), (2000001, .row intE (C) 3 1)] := by
 have hx0 : (k :: r)[(0 : Int).toNat]? = some k := rfl;have hap0 := hk.1;have hcl := ziT (m := m) (k := k) (l := l);refine FnP.intro (ts := [(0, .ptr 2000000 0 0 0)]) (n := 75) (cs := [.ptr 2000000 0 0 0, .own 2000001]) (by kernel_rfl) Tryz.func100 rfl Tryz.ntmps100 rfl (by simp) rfl rfl rfl rfl (fun g w d vs => ?_);apply yg;refine yu ?_;apply yl;apply yg;refine ya ?_;refine ya ?_ (hs := by exact yk rfl);refine gd ?_ ?_<;>intro hc1
 ·exact absurd hc1 (by simp; omega)
 apply yp;apply yg;refine ya ?_;refine ya ?_ (hs := by exact yk rfl);iterate 5 refine ya ?_
 apply yI;iterate 2 refine ya ?_
 refine ya ?_ (hs := by exact yk rfl);refine gq ?_
 first
  | refine zao (zI rfl rfl rfl sl59 ty3 (by omega) (by omega)) rfl ?_
  | refine zao (zaa rfl rfl sl59 ty3 (fun _ => rfl) (by omega) (by omega)) rfl ?_
 refine ya ?_ (hs := by exact yk rfl);refine gq ?_;refine zf [4,5,26,27,28,29,30,31,32,33,34,35,36,37,38] [0,1,3,7,0,0,32,96,224,511,1023,2047,2047,4095,16383] mo ?_;refine yc ?_;refine yc ?_ (hs := by exact yk rfl);iterate 4 refine yc ?_
 refine yc ?_ (hs := by exact yk rfl);iterate 2 refine yc ?_
 refine yM (zep m k l (by omega) (by omega) (by omega)) ?_;iterate 5 refine yc ?_
 refine yE ?_;refine gd ?_ ?_<;>intro hc2
 ·(refine ym ?_; refine ya ?_; refine ya ?_; refine ya (hs := by exact zjz rfl ⟨_, Tryz.underlying153⟩) ?_; refine Ex.panic ?_; exact zrk.mk)
 exact absurd hc2 h0
set_option maxHeartbeats 2000000 in
theorem zhT (m : Mn) (l : List Ite) (C : List Int) (k : Int) (r : List Int) (hk : 1 <= k /\ k <= 4) (hl : l.length <= 1000) (hC : C.length <= 1000000) (h0 : cuE m k l = 0) : FnO Tryz.prog 100 [.ptr 2000000 0 0 0] [(2000000, .box [iv m.Max, iv m.Mod, iv m.Tem, iv m.Pro, yf (k :: r), itsA l, .own 2000001] 158), (2000001, .row intE (C) 3 1)] [2000000] (.fn 100 []) [(2000000, .box [iv m.Max, iv m.Mod, iv m.Tem, iv m.Pro, yf r, itsA (apV m k l (cuV m k l)), .own 2000012] 158), (2000012, .row intE (C ++ (cuV m k l)) 3 1)] := by
 have hx0 : (k :: r)[(0 : Int).toNat]? = some k := rfl;have hap0 := hk.1;have hcl := ziT (m := m) (k := k) (l := l);have hap := zlC h0;refine FnO.introX (ts := [(0, .ptr 2000000 0 0 0)]) (rv := [.tmp 2]) (n := 75) (cs := [.ptr 2000000 0 0 0]) (by kernel_rfl) Tryz.func100 rfl Tryz.ntmps100 rfl rfl (by simp) rfl rfl rfl rfl (fun g w d vs => ?_);apply yg;refine yu ?_;apply yl;apply yg;refine ya ?_;refine ya ?_ (hs := by exact yk rfl);refine gd ?_ ?_<;>intro hc1
 ·exact absurd hc1 (by simp; omega)
 apply yp;apply yg;refine ya ?_;refine ya ?_ (hs := by exact yk rfl);iterate 5 refine ya ?_
 apply yI;iterate 2 refine ya ?_
 refine ya ?_ (hs := by exact yk rfl);refine gq ?_
 first
  | refine zao (zI rfl rfl rfl sl59 ty3 (by omega) (by omega)) rfl ?_
  | refine zao (zaa rfl rfl sl59 ty3 (fun _ => rfl) (by omega) (by omega)) rfl ?_
 refine ya ?_ (hs := by exact yk rfl);refine gq ?_;refine zf [4,5,26,27,28,29,30,31,32,33,34,35,36,37,38] [0,1,3,7,0,0,32,96,224,511,1023,2047,2047,4095,16383] mo ?_;refine yc ?_;refine yc ?_ (hs := by exact yk rfl);iterate 4 refine yc ?_
 refine yc ?_ (hs := by exact yk rfl);iterate 2 refine yc ?_
 refine yM (zep m k l (by omega) (by omega) (by omega)) ?_;iterate 5 refine yc ?_
 refine yE ?_;refine gd ?_ ?_<;>intro hc2
 ·exact absurd h0 hc2
 refine gq ?_;refine X.drawQ [⟨0, 45, .ptr 2000000 0 0 0, []⟩, ⟨1, 46, .ptr 2000000 0 0 0, []⟩, ⟨2, 47, .ptr 2000000 0 0 0, [1]⟩, ⟨3, 48, .ptr 2000000 0 0 (0 + 0), [1, 2]⟩, ⟨4, 49, mnA m, [1, 2, 3]⟩, ⟨5, 50, iv k, []⟩, ⟨6, 51, .ptr 2000000 0 0 0, []⟩, ⟨7, 52, .ptr 2000000 0 0 0, [6]⟩, ⟨8, 53, .ptr 2000000 0 0 (0 + 5), [6, 7]⟩, ⟨9, 54, itsA l, [6, 7, 8]⟩, ⟨10, 55, yf (cuV m k l), []⟩, ⟨12, 44, .tup [itsA (apV m k l (cuV m k l)), iv (apE m k l (cuV m k l))], [6, 1, 7, 2, 8, 3, 10, 9, 5, 4, 11]⟩, ⟨13, 57, itsA (apV m k l (cuV m k l)), [6, 1, 7, 2, 8, 3, 10, 9, 5, 4, 11, 12]⟩, ⟨14, 58, iv (apE m k l (cuV m k l)), [6, 1, 7, 2, 8, 3, 10, 9, 5, 4, 11, 12]⟩, ⟨15, 59, .ptr 2000000 0 0 0, [13, 12, 11, 10, 9, 8, 7, 6, 5, 4, 3, 2, 1, 0]⟩, ⟨16, 60, .ptr 2000000 0 0 (0 + 5), [13, 12, 11, 10, 9, 8, 7, 6, 5, 4, 3, 2, 1, 0, 15]⟩] [(11, [6, 1, 7, 2, 8, 3, 10, 9, 5, 4]), (17, [15, 12, 10, 9, 8, 7, 6, 5, 4, 3, 2, 1, 0, 11, 13, 16]), (18, [16, 15, 13, 12, 11, 10, 9, 8, 7, 6, 5, 4, 3, 2, 1, 0, 17, 14])] (fun j => match j with | 0 => ⟨[(0, .ptr 2000000 0 0 0), (3, iv k), (4, yf (cuV m k l))], [(1000001, .hold vs [.ptr 2000000 0 0 0]), (2000000, .box [iv m.Max, iv m.Mod, iv m.Tem, iv m.Pro, yf r, itsA l, .own 2000001] 158), (2000001, .row intE (C) 3 1)]⟩ | 1 => ⟨[(0, .ptr 2000000 0 0 0), (3, iv k), (4, yf (cuV m k l)), (56, .tup [itsA (apV m k l (cuV m k l)), iv (apE m k l (cuV m k l))])], [(1000001, .hold vs [.ptr 2000000 0 0 0]), (2000000, .box [iv m.Max, iv m.Mod, iv m.Tem, iv m.Pro, yf r, itsA l, .own 2000001] 158), (2000001, .row intE (C) 3 1)]⟩ | 2 => ⟨[(0, .ptr 2000000 0 0 0), (3, iv k), (4, yf (cuV m k l)), (56, .tup [itsA (apV m k l (cuV m k l)), iv (apE m k l (cuV m k l))])], [(1000001, .hold vs [.ptr 2000000 0 0 0]), (2000000, .box [iv m.Max, iv m.Mod, iv m.Tem, iv m.Pro, yf r, itsA (apV m k l (cuV m k l)), .own 2000001] 158), (2000001, .row intE (C) 3 1)]⟩ | _ => ⟨[(0, .ptr 2000000 0 0 0), (3, iv k), (4, yf (cuV m k l)), (56, .tup [itsA (apV m k l (cuV m k l)), iv (apE m k l (cuV m k l))]), (5, iv (apE m k l (cuV m k l)))], [(1000001, .hold vs [.ptr 2000000 0 0 0]), (2000000, .box [iv m.Max, iv m.Mod, iv m.Tem, iv m.Pro, yf r, itsA (apV m k l (cuV m k l)), .own 2000001] 158), (2000001, .row intE (C) 3 1)]⟩) mo (by kernel_rfl) (zbb (ye)) (fun j hj => ?_) (fun j c hc β hβ => ?_) ?_
 ·rcases j with _ | _ | _ | _ | j
  ·exact ze
  ·exact ze
  ·exact ze
  ·exact ze
  ·exact absurd (show j + 4 <= 3 from hj) (by omega)
 ·rcases j with _ | _ | _ | j
  ·obtain rfl : (11, [6, 1, 7, 2, 8, 3, 10, 9, 5, 4]) = c := by injection hc
   refine yh rfl (yD (st0 := ⟨[(45, .ifb (β 0) (.ptr 2000000 0 0 0)), (46, .ptr 2000000 0 0 0), (47, .ptr 2000000 0 0 0), (48, .ptr 2000000 0 0 (0 + 0)), (49, mnA m), (50, iv k), (51, .ptr 2000000 0 0 0), (52, .ptr 2000000 0 0 0), (53, .ptr 2000000 0 0 (0 + 5)), (54, itsA l), (55, yf (cuV m k l)), (44, .ifb (β 12) (.tup [itsA (apV m k l (cuV m k l)), iv (apE m k l (cuV m k l))])), (57, .ifb (β 13) (itsA (apV m k l (cuV m k l)))), (58, .ifb (β 14) (iv (apE m k l (cuV m k l)))), (59, .ifb (β 15) (.ptr 2000000 0 0 0)), (60, .ifb (β 16) (.ptr 2000000 0 0 (0 + 5))), (0, .ptr 2000000 0 0 0), (3, iv k), (4, yf (cuV m k l))], [(1000001, .hold vs [.ptr 2000000 0 0 0]), (2000000, .box [iv m.Max, iv m.Mod, iv m.Tem, iv m.Pro, yf r, itsA l, .own 2000001] 158), (2000001, .row intE (C) 3 1)]⟩) (yy) ?_);refine yw.imp (yo (zb6 rfl rfl rfl (LeL.refl _) (zhS m k l (cuV m k l) (by omega) (by omega) (by omega) (by omega))) rfl rfl) (yy)
  ·obtain rfl : (17, [15, 12, 10, 9, 8, 7, 6, 5, 4, 3, 2, 1, 0, 11, 13, 16]) = c := by injection hc
   refine yh rfl (yD (st0 := ⟨[(45, .ptr 2000000 0 0 0), (46, .ptr 2000000 0 0 0), (47, .ptr 2000000 0 0 0), (48, .ptr 2000000 0 0 (0 + 0)), (49, mnA m), (50, iv k), (51, .ptr 2000000 0 0 0), (52, .ptr 2000000 0 0 0), (53, .ptr 2000000 0 0 (0 + 5)), (54, itsA l), (55, yf (cuV m k l)), (44, .tup [itsA (apV m k l (cuV m k l)), iv (apE m k l (cuV m k l))]), (57, itsA (apV m k l (cuV m k l))), (58, .ifb (β 14) (iv (apE m k l (cuV m k l)))), (59, .ptr 2000000 0 0 0), (60, .ptr 2000000 0 0 (0 + 5)), (0, .ptr 2000000 0 0 0), (3, iv k), (4, yf (cuV m k l)), (56, .tup [itsA (apV m k l (cuV m k l)), iv (apE m k l (cuV m k l))])], [(1000001, .hold vs [.ptr 2000000 0 0 0]), (2000000, .box [iv m.Max, iv m.Mod, iv m.Tem, iv m.Pro, yf r, itsA l, .own 2000001] 158), (2000001, .row intE (C) 3 1)]⟩) (yy) ?_);refine yw.imp (zah rfl rfl rfl rfl TyK.h (by simp)) (yy)
  ·obtain rfl : (18, [16, 15, 13, 12, 11, 10, 9, 8, 7, 6, 5, 4, 3, 2, 1, 0, 17, 14]) = c := by injection hc
   refine yh rfl (yD (st0 := ⟨[(45, .ptr 2000000 0 0 0), (46, .ptr 2000000 0 0 0), (47, .ptr 2000000 0 0 0), (48, .ptr 2000000 0 0 (0 + 0)), (49, mnA m), (50, iv k), (51, .ptr 2000000 0 0 0), (52, .ptr 2000000 0 0 0), (53, .ptr 2000000 0 0 (0 + 5)), (54, itsA l), (55, yf (cuV m k l)), (44, .tup [itsA (apV m k l (cuV m k l)), iv (apE m k l (cuV m k l))]), (57, itsA (apV m k l (cuV m k l))), (58, iv (apE m k l (cuV m k l))), (59, .ptr 2000000 0 0 0), (60, .ptr 2000000 0 0 (0 + 5)), (0, .ptr 2000000 0 0 0), (3, iv k), (4, yf (cuV m k l)), (56, .tup [itsA (apV m k l (cuV m k l)), iv (apE m k l (cuV m k l))])], [(1000001, .hold vs [.ptr 2000000 0 0 0]), (2000000, .box [iv m.Max, iv m.Mod, iv m.Tem, iv m.Pro, yf r, itsA (apV m k l (cuV m k l)), .own 2000001] 158), (2000001, .row intE (C) 3 1)]⟩) (yy) ?_);refine yw.imp (yo (Pur.stepA y9) rfl rfl) (yy)
  ·exact absurd hc (by simp)
 refine gd ?_ ?_<;>intro hc3
 ·exact absurd hap hc3
 apply yp;apply yg;iterate 2 refine ya ?_
 refine ya ?_ (hs := by exact yk rfl);iterate 3 refine ya ?_
 refine Ex.mo ?_;refine ya ?_ (hs := by exact yk rfl);refine ya ?_;refine Ex.mo ?_;apply yI;refine yu ?_;refine X.ret ?_;refine zfR (Imp.mv 2000001 2000012 rfl rfl) ?_;refine ziE.mk [(2, .fn 100 [])] [] (.inr rfl) (.one (.tmp rfl (LeV.eq ?_)));all_goals (rfl)
end
section
attribute [local irreducible] Pur yr yw Ex X Fn Imp LeV LeB FnO It yx FnW FnOW FnP
theorem ze1 (A : List Int) (B : List Ite) : FnD Tryz.prog 98 [.ptr 2000004 0 0 0, .ptr 2000005 0 0 0, .ptr 2000006 0 0 0] [(2000004, .box [yf A] 59), (2000005, .box [itsA B] 114), (2000006, .box [iv 0] 28)] [2000004, 2000005, 2000006] (.returning) (.returning) [(2000004, .box [yf A] 59), (2000005, .box [itsA B] 114), (2000006, .box [iv 0] 28)] := by
 refine FnD.intro (ts := [(0, .ptr 2000004 0 0 0), (1, .ptr 2000005 0 0 0), (2, .ptr 2000006 0 0 0)]) (n := 19) (cs := [.ptr 2000004 0 0 0, .ptr 2000005 0 0 0, .ptr 2000006 0 0 0]) (by kernel_rfl) Tryz.func98 rfl Tryz.ntmps98 rfl (by simp) rfl (by simp) rfl rfl rfl (fun g w d vs => ?_);refine XS.seq ?_;refine XS.recover rfl rfl (v := .nilIface) (.inl ⟨rfl, rfl, rfl⟩) ?_;refine XS.of ?_;apply yg;refine ya ?_;refine ya (hs := by exact zhG ⟨_, Tryz.underlying20⟩ rfl) ?_;refine gd ?_ ?_<;>intro hc1
 ·cases hc1
 apply yp;exact ⟨rfl, .inl rfl, [], [], ye⟩
theorem ze2 (e : Int) : FnD Tryz.prog 98 [.ptr 2000004 0 0 0, .ptr 2000005 0 0 0, .ptr 2000006 0 0 0] [(2000004, .box [.nils] 59), (2000005, .box [.nils] 114), (2000006, .box [iv 0] 28)] [2000004, 2000005, 2000006] (.panicking [{ v := ifV 153 .i64 e, recovered := false }]) (.panicking [{ v := ifV 153 .i64 e, recovered := true }]) [(2000004, .box [.nils] 59), (2000005, .box [.nils] 114), (2000006, .box [iv e] 28)] := by
 refine FnD.intro (ts := [(0, .ptr 2000004 0 0 0), (1, .ptr 2000005 0 0 0), (2, .ptr 2000006 0 0 0)]) (n := 19) (cs := [.ptr 2000004 0 0 0, .ptr 2000005 0 0 0, .ptr 2000006 0 0 0]) (by kernel_rfl) Tryz.func98 rfl Tryz.ntmps98 rfl (by simp) rfl (by simp) rfl rfl rfl (fun g w d vs => ?_);refine XS.seq ?_;refine XS.recover rfl rfl (v := ifV 153 .i64 e) (.inr ⟨[], rfl, rfl⟩) ?_;refine XS.of ?_;apply yg;refine ya ?_;refine ya (hs := by exact zkn ⟨_, Tryz.underlying20⟩ rfl) ?_;refine gd ?_ ?_<;>intro hc1
 ·apply yg;refine ya ?_;refine ya (hs := by exact zh7 rfl ⟨_, Tryz.underlying153⟩) ?_;refine gd ?_ ?_<;>intro hc2
  ·cases hc2
  apply yp;refine X.drawQ [⟨0, 17, .ptr 4 0 0 (0 + 0), []⟩, ⟨1, 18, iv e, [0]⟩] [(2, []), (3, [2]), (4, [2, 0, 3, 1])] (fun j => match j with | 0 => ⟨[(0, .ptr 2000004 0 0 0), (1, .ptr 2000005 0 0 0), (2, .ptr 2000006 0 0 0), (4, .ptr 4 0 0 0)], [(1000001, .hold vs [.ptr 2000004 0 0 0, .ptr 2000005 0 0 0, .ptr 2000006 0 0 0]), (2000004, .box [.nils] 59), (2000005, .box [.nils] 114), (2000006, .box [iv 0] 28), (4, .box [iv e] 153)]⟩ | 1 => ⟨[(0, .ptr 2000004 0 0 0), (1, .ptr 2000005 0 0 0), (2, .ptr 2000006 0 0 0), (4, .ptr 4 0 0 0)], [(1000001, .hold vs [.ptr 2000004 0 0 0, .ptr 2000005 0 0 0, .ptr 2000006 0 0 0]), (2000004, .box [.nils] 59), (2000005, .box [.nils] 114), (2000006, .box [iv 0] 28), (4, .box [iv e] 153)]⟩ | 2 => ⟨[(0, .ptr 2000004 0 0 0), (1, .ptr 2000005 0 0 0), (2, .ptr 2000006 0 0 0), (4, .ptr 4 0 0 0)], [(1000001, .hold vs [.ptr 2000004 0 0 0, .ptr 2000005 0 0 0, .ptr 2000006 0 0 0]), (2000004, .box [.nils] 59), (2000005, .box [.nils] 114), (2000006, .box [iv 0] 28), (4, .box [iv e] 153)]⟩ | _ => ⟨[(0, .ptr 2000004 0 0 0), (1, .ptr 2000005 0 0 0), (2, .ptr 2000006 0 0 0), (4, .ptr 4 0 0 0)], [(1000001, .hold vs [.ptr 2000004 0 0 0, .ptr 2000005 0 0 0, .ptr 2000006 0 0 0]), (2000004, .box [.nils] 59), (2000005, .box [.nils] 114), (2000006, .box [iv e] 28), (4, .box [iv e] 153)]⟩) mo (by kernel_rfl) (zbb (ye)) (fun j hj => ?_) (fun j c hc β hβ => ?_) ?_
  ·rcases j with _ | _ | _ | _ | j
   ·exact ze
   ·exact ze
   ·exact ze
   ·exact ze
   ·exact absurd (show j + 4 <= 3 from hj) (by omega)
  ·rcases j with _ | _ | _ | j
   ·obtain rfl : (2, []) = c := by injection hc
    refine yh rfl (yD (st0 := ⟨[(17, .ifb (β 0) (.ptr 4 0 0 (0 + 0))), (18, .ifb (β 1) (iv e)), (0, .ptr 2000004 0 0 0), (1, .ptr 2000005 0 0 0), (2, .ptr 2000006 0 0 0), (4, .ptr 4 0 0 0)], [(1000001, .hold vs [.ptr 2000004 0 0 0, .ptr 2000005 0 0 0, .ptr 2000006 0 0 0]), (2000004, .box [.nils] 59), (2000005, .box [.nils] 114), (2000006, .box [iv 0] 28), (4, .box [iv e] 153)]⟩) (yy) ?_);refine yw.imp (zah rfl rfl rfl rfl TyK.h (by simp)) (yy)
   ·obtain rfl : (3, [2]) = c := by injection hc
    refine yh rfl (yD (st0 := ⟨[(17, .ifb (β 0) (.ptr 4 0 0 (0 + 0))), (18, .ifb (β 1) (iv e)), (0, .ptr 2000004 0 0 0), (1, .ptr 2000005 0 0 0), (2, .ptr 2000006 0 0 0), (4, .ptr 4 0 0 0)], [(1000001, .hold vs [.ptr 2000004 0 0 0, .ptr 2000005 0 0 0, .ptr 2000006 0 0 0]), (2000004, .box [.nils] 59), (2000005, .box [.nils] 114), (2000006, .box [iv 0] 28), (4, .box [iv e] 153)]⟩) (yy) ?_);refine yw.imp (zah rfl rfl rfl rfl TyK.h (by simp)) (yy)
   ·obtain rfl : (4, [2, 0, 3, 1]) = c := by injection hc
    refine yh rfl (yD (st0 := ⟨[(17, .ptr 4 0 0 (0 + 0)), (18, iv e), (0, .ptr 2000004 0 0 0), (1, .ptr 2000005 0 0 0), (2, .ptr 2000006 0 0 0), (4, .ptr 4 0 0 0)], [(1000001, .hold vs [.ptr 2000004 0 0 0, .ptr 2000005 0 0 0, .ptr 2000006 0 0 0]), (2000004, .box [.nils] 59), (2000005, .box [.nils] 114), (2000006, .box [iv 0] 28), (4, .box [iv e] 153)]⟩) (yy) ?_);refine yw.imp (zah rfl rfl rfl rfl TyK.h (by simp)) (yy)
   ·exact absurd hc (by simp)
  exact ⟨rfl, .inl rfl, [], [], ye⟩
 ·cases hc1
end
end Go.Rse
namespace Go.Rse
open Go Go.RowKit
section
variable {P : Program} {C : Ctx} {st : St} {ty : TypeId} {Q : Exit -> St -> Prop}
theorem zmK {T : TypeId} {x : Operand} {yt : TypeId} {f : FuncId} {cs : List AV} (hu : ∃ a b c, P.underlying T = some (.func a b c)) (hx : ev st x = some (.fn f cs)) : Pur P C (.binOp .neq T x (.const .nilFunc) yt) ty st (.bool true) := fun g a w dst pos af gd hr => by
 obtain ⟨us, e, _, _⟩ := zb2 (yn hr hx);have e0 : a.eval (.const .nilFunc) = .nilFunc := rfl;refine ⟨.bool true, ?_, .bool _⟩;obtain ⟨p, q, r, hu⟩ := hu;have hg : (eqGuard .neq T x (.const .nilFunc) (.func (.func f) #[] us.toArray) .nilFunc).run P w = .ok () w := by unfold eqGuard; simp
 have h1 : (Op.equal T (.func (.func f) #[] us.toArray) .nilFunc).run P w = .ok false w := by
  unfold Op.equal;rw [show Op.maxDepth = 9999 + 1 from rfl];unfold Op.equalIn;simp [run_underlying hu]
 simp only [execOp, e, e0, Sem.run_bind, hg, Result.andThen_ok, binOp, h1, Sem.run_pure]; rfl
theorem zkL {T : TypeId} {x : Operand} {yt : TypeId} (hu : ∃ a b c, P.underlying T = some (.func a b c)) (hx : ev st x = some .nilf) : Pur P C (.binOp .neq T x (.const .nilFunc) yt) ty st (.bool false) := fun g a w dst pos af gd hr => by
 have e := zfo (yn hr hx);have e0 : a.eval (.const .nilFunc) = .nilFunc := rfl;refine ⟨.bool false, ?_, .bool _⟩;obtain ⟨p, q, r, hu⟩ := hu;have hg : (eqGuard .neq T x (.const .nilFunc) .nilFunc .nilFunc).run P w = .ok () w := by unfold eqGuard; simp
 have h1 : (Op.equal T .nilFunc .nilFunc).run P w = .ok true w := by
  unfold Op.equal;rw [show Op.maxDepth = 9999 + 1 from rfl];unfold Op.equalIn;simp [run_underlying hu]
 simp only [execOp, e, e0, Sem.run_bind, hg, Result.andThen_ok, binOp, h1, Sem.run_pure]; rfl
theorem zus {ι : Type} {c : Code} (I : ι -> List (Nat × AV)) (H : ι -> List (Nat × Blk)) (J : ι -> Prop) (μ : ι -> Nat) (i0 : ι) (IB : ι -> List (Nat × AV)) (HB : ι -> List (Nat × Blk)) (JB : ι -> Prop)
 (hB : ∀ i, JB i -> X P C c ⟨IB i, HB i⟩ (zdF (fun _ => False) Q))
 (h : ∀ i, J i -> X P C c ⟨I i, H i⟩ (zdF (fun st' => (∃ i', Imp C st' ⟨I i', H i'⟩ /\ J i' /\ μ i' < μ i) \/ (∃ i', Imp C st' ⟨IB i', HB i'⟩ /\ JB i')) Q))
 (hJ : J i0) (h0 : Imp C st ⟨I i0, H i0⟩) : X P C (.loop c) st Q := by
 refine X.loop (fun s : ι ⊕ ι => (⟨Sum.elim I IB s, Sum.elim H HB s⟩ : St)) (Sum.elim J JB) (Sum.elim (fun i => μ i + 1) (fun _ => 0)) (.inl i0) h0 hJ (fun s hs => ?_);cases s with
 | inl i =>
  intro g a w hr;refine wpIn_mono (h i hs g a w hr) ?_
  rintro e a w ⟨st, g, hr, q⟩
  refine ⟨st, g, hr, ?_⟩;cases e
  case normal =>
   rcases q with ⟨i', q1, q2, q3⟩ | ⟨i', q1, q2⟩
   ·exact ⟨.inl i', q1, q2, Nat.succ_lt_succ q3⟩
   ·exact ⟨.inr i', q1, q2, Nat.succ_pos _⟩
  all_goals exact q
 | inr i =>
  intro g a w hr;refine wpIn_mono (hB i hs g a w hr) ?_
  rintro e a w ⟨st, g, hr, q⟩
  refine ⟨st, g, hr, ?_⟩;cases e
  case normal => exact q.elim
  all_goals exact q
end
end Go.Rse
