/-
  Walks: choices by definition, made one after the other; Allowed and Apply by definition.
  Walks: Allowed and Apply by definition.
  Allowed and Apply: one contract for all inputs.
  Walks: Allowed, where the list that it answers is new.
-/
import Derived.Test.YtfiiobachmglpaaGreatDoorFLvlC
import Derived.Test.YtfiiobachmglpaaGreatDoorFLvlB
set_option linter.unusedSimpArgs false
set_option linter.unusedVariables false
namespace Go.Rse
open Go Go.Proofs
attribute [local irreducible] Pur yK yM Ex X Fn Imp LeV LeB FnO It yW FnW FnOW
theorem zlU (u : Tm) (k : Int) (S : List Sgm) (l now : List Ite) (M : List Int) (n : Nat) : (rfA u k S l now M n).length <= 2 := by
 unfold rfA rfR;simp only;have h : ∀ (b : Bool) (x : Int), (if b = true then [x] else []).length <= 1 := fun b x => by cases b <;> simp
 have h' : ∀ (p : Prop) [Decidable p] (x : Int), (if p then [x] else []).length <= 1 := fun p _ x => by split <;> simp
 split
 ·split <;> simp
 ·split
  ·simp
  ·split
   ·rw [List.length_append];have h1 := h' (rfPo u k l now (rfLo M n) (S.getD n default) = true) 1;have h2 := h' (rfAn u k l now (S.getD n default) = true) 2;omega
   ·rw [List.length_append];have h1 := h' (rfPo u k l now (rfLo M n) (S.getD n default) = true /\ rfAn u k l now (S.getD n default) = true) 3;have h2 := h' (rfAt u k l (S.getD n default) = true) 4;omega
theorem zhy {c : Int} {A : List Int} {n : Nat} {q : Int} (h : A[n]? = some q) : (decide (c ∈ A.take n) || decide (q = c)) = decide (c ∈ A.take (n + 1)) := by
 rw [List.take_add_one, h];simp only [Option.toList_some, List.mem_append, List.mem_singleton, Bool.decide_or];congr 1;by_cases e : q = c
 ·subst e; simp
 ·rw [decide_eq_false e, decide_eq_false (fun h => e h.symm)]
attribute [local irreducible] addV addE subV subE chA chB chN rfA
set_option maxHeartbeats 2000000 in
theorem zbE (u : Tm) (k : Int) (l now : List Ite) (S : List Sgm) (M : List Int) (s : Sgm) (hn : S[M.length]? = some s) (hs : SgB l.length s) (hl : l.length <= 1000000) (hnl : now.length = l.length) (hM : M.length <= 1000000) (k0 : -9223372036854775808 <= k) (k1 : k + 1 <= 9223372036854775807) (hN : 0 <= s.Count.N) (c : Int) (hc : ¬ c ∈ rfA u k S l now M M.length) : FnO Tryz.prog 134 [.ptr 2000000 0 0 0, iv c] [(2000000, .box [iv u.N, iv u.D, iv k, itsA l, .own 2000001, smsA S, .own 2000002] 191), (2000001, .row itE (now) 62 12), (2000002, .row intE (M) 3 1)] [] (.bool false) [] := by
 have hrl := zlU u k S l now M M.length;refine FnO.introX (ts := [(0, .ptr 2000000 0 0 0), (1, iv c)]) (rv := [.tmp 4]) (n := 163) (cs := []) (by kernel_rfl) Tryz.func134 rfl Tryz.ntmps134 rfl rfl (by simp) rfl rfl rfl rfl (fun g w d vs => ?_);apply yb;refine ya ?_;apply yn;refine ya ?_;refine Ex.stepA (zc8 (ι := Unit) (stF := fun _ => ⟨[(12, .ept (fun _ : Unit => [iv u.N, iv u.D, iv k, itsA l, itsA now, smsA S, yg M]) () 0)], []⟩) 13 (fun g a w hr => zlD ((Imp.freeze (k := 2000001) rfl).trans ((Imp.freeze (k := 2000002) rfl).trans ((y8 (k := 2000000) rfl rfl).trans yl))) hr) (fun _ => zI u k l now S M s hn hs hl hnl (by omega) k0 k1 hN)) rfl rfl ?_;refine ye ?_;apply yd;refine y3 (st' := ⟨[(0, .any), (1, iv c), (5, yg (rfA u k S l now M M.length))], [(1000001, .hold vs [])]⟩) ((Imp.freeze (k := 13) rfl).trans yl) ?_;apply yc;refine ye ?_;apply yd;apply yb;refine ye ?_;apply X.block
 refine y9 (ι := Nat) (fun (n : Nat) => [(0, .any), (1, iv c), (5, yg (rfA u k S l now M M.length)), (6, .bool (decide (c ∈ (rfA u k S l now M M.length).take n))), (7, iv (n : Int))]) (fun (n : Nat) => [(1000001, .hold vs [])]) (fun (n : Nat) => n <= (rfA u k S l now M M.length).length) (fun (n : Nat) => (rfA u k S l now M M.length).length - n) 0 (fun n hk => ?_) (h0 := by
  exact yx)
 apply yd;apply yb;refine yX ?_;refine yk rfl ?_ ?_<;>intro hc1
 ·obtain ⟨q, hq⟩ : ∃ q, (rfA u k S l now M M.length)[n]? = some q := ⟨_, lgg (by omega)⟩;have hq2 : (rfA u k S l now M M.length)[(n : Int).toNat]? = some q := by simpa using hq
  have hst := zhy (c := c) hq;apply yf;apply yd;apply X.block;apply yc;refine ya ?_;refine ExF.at 1 ?_;refine yC ?_;iterate 6 refine ExF.gi ?_
  refine yA ?_;refine yh ?_;apply yc;refine yp ?_;refine yL (n + 1) (hI := yx)
 ·have hn : n = (rfA u k S l now M M.length).length := by omega
  subst hn;have hT : decide (c ∈ (rfA u k S l now M M.length).take (rfA u k S l now M M.length).length) = false := by rw [List.take_length]; exact decide_eq_false hc
  apply X.exit;apply yd;apply yb;refine yh ?_;refine yk rfl ?_ ?_<;>intro hc2
  ·apply yb;refine ye ?_;refine X.ret ?_;refine zlC.mk [(4, .bool false)] [] (.inr rfl) (.one (.tmp rfl (LeV.eq ?_)));all_goals (rfl)
  exact absurd hc2 (by rw [List.take_length]; exact hc)
set_option maxHeartbeats 8000000 in
theorem zC (u : Tm) (k : Int) (l now : List Ite) (S : List Sgm) (M : List Int) (s : Sgm) (hn : S[M.length]? = some s) (hs : SgB l.length s) (hl : l.length <= 1000000) (hnl : now.length = l.length) (hM : M.length <= 1000000) (k0 : -9223372036854775808 <= k) (k1 : k + 1 <= 9223372036854775807) (hN : 0 <= s.Count.N) (c : Int) (hc : c ∈ rfA u k S l now M M.length) (hch : ChOk s c) : FnO Tryz.prog 134 [.ptr 2000000 0 0 0, iv c] [(2000000, .box [iv u.N, iv u.D, iv k, itsA l, .own 2000001, smsA S, .own 2000002] 191), (2000001, .row itE (now) 62 12), (2000002, .row intE (M) 3 1)] [2000000, 2000001] (.bool true) [(2000000, .box [iv u.N, iv u.D, iv k, itsA l, .own 2000001, smsA S, .own 2000012] 191), (2000001, .row itE (chN u s c now) 62 12), (2000012, .row intE (M ++ [c]) 3 1)] := by
 have hrl := zlU u k S l now M M.length;have f0 := hs.f0;have ft := hs.ft;have tn := hs.tn;have lf := hs.lf;have rt := hs.rt;have hn2 : S[(M.length : Int).toNat]? = some s := by simpa using hn
 have hAl := zje u s c now;have hBl := zlL u s c now;refine FnO.introX (ts := [(0, .ptr 2000000 0 0 0), (1, iv c)]) (rv := [.tmp 4]) (n := 163) (cs := [.ptr 2000000 0 0 0, .own 2000001]) (by kernel_rfl) Tryz.func134 rfl Tryz.ntmps134 rfl rfl (by simp) rfl rfl rfl rfl (fun g w d vs => ?_);apply yb;refine ya ?_;apply yn;refine ya ?_;refine Ex.stepA (zc8 (ι := Unit) (stF := fun _ => ⟨[(12, .ept (fun _ : Unit => [iv u.N, iv u.D, iv k, itsA l, itsA now, smsA S, yg M]) () 0)], []⟩) 13 (fun g a w hr => zlD ((Imp.freeze (k := 2000001) rfl).trans ((Imp.freeze (k := 2000002) rfl).trans ((y8 (k := 2000000) rfl rfl).trans yl))) hr) (fun _ => zI u k l now S M s hn hs hl hnl (by omega) k0 k1 hN)) rfl rfl ?_;refine ye ?_;apply yd;refine y3 (st' := ⟨[(0, .ptr 2000000 0 0 0), (1, iv c), (5, yg (rfA u k S l now M M.length))], [(1000001, .hold vs [.ptr 2000000 0 0 0, .own 2000001]), (2000000, .box [iv u.N, iv u.D, iv k, itsA l, .own 2000001, smsA S, .own 2000002] 191), (2000001, .row itE (now) 62 12), (2000002, .row intE (M) 3 1)]⟩) ((Imp.freeze (k := 13) rfl).trans yl) ?_;apply yc;refine ye ?_;apply yd;apply yb;refine ye ?_;apply X.block
 refine y9 (ι := Nat) (fun (n : Nat) => [(0, .ptr 2000000 0 0 0), (1, iv c), (5, yg (rfA u k S l now M M.length)), (6, .bool (decide (c ∈ (rfA u k S l now M M.length).take n))), (7, iv (n : Int))]) (fun (n : Nat) => [(1000001, .hold vs [.ptr 2000000 0 0 0, .own 2000001]), (2000000, .box [iv u.N, iv u.D, iv k, itsA l, .own 2000001, smsA S, .own 2000002] 191), (2000001, .row itE (now) 62 12), (2000002, .row intE (M) 3 1)]) (fun (n : Nat) => n <= (rfA u k S l now M M.length).length) (fun (n : Nat) => (rfA u k S l now M M.length).length - n) 0 (fun n hk => ?_) (h0 := by
  exact yx)
 apply yd;apply yb;refine yX ?_;refine yk rfl ?_ ?_<;>intro hc1
 ·obtain ⟨q, hq⟩ : ∃ q, (rfA u k S l now M M.length)[n]? = some q := ⟨_, lgg (by omega)⟩;have hq2 : (rfA u k S l now M M.length)[(n : Int).toNat]? = some q := by simpa using hq
  have hst := zhy (c := c) hq;apply yf;apply yd;apply X.block;apply yc;refine ya ?_;refine ExF.at 1 ?_;refine yC ?_;iterate 6 refine ExF.gi ?_
  refine yA ?_;refine yh ?_;apply yc;refine yp ?_;refine yL (n + 1) (hI := yx)
 ·have hn : n = (rfA u k S l now M M.length).length := by omega
  subst hn;apply X.exit;apply yd;apply yb;refine yh ?_;refine yk rfl ?_ ?_<;>intro hc2
  ·exact absurd (show c ∈ (rfA u k S l now M M.length).take (rfA u k S l now M M.length).length by rw [List.take_length]; exact hc) hc2
  apply yf;apply yd;refine zi [8,31,32,33,34,35,36,37,38,39,40,41] [0,1,3,7,0,16,48,112,240,511,1023,0,4095] mo ?_;refine yj ?_;refine yj ?_ (hs := by exact yo rfl);iterate 3 refine yj ?_
  refine yj ?_ (hs := by exact yo rfl);iterate 5 refine yj ?_
  refine ChM.step rfl rfl rfl (zA (k := 8) zn2) rfl ?_;refine yR ?_;refine yi ?_;apply Ex.nil;refine zc6 ⟨[(0, .ptr 2000000 0 0 0), (1, iv c), (8, .ptr 8 0 0 0)], [(1000001, .hold vs [.ptr 2000000 0 0 0, .own 2000001]), (2000000, .box [iv u.N, iv u.D, iv k, itsA l, .own 2000001, smsA S, .own 2000002] 191), (2000001, .row itE (chA u s c now) 62 12), (2000002, .row intE (M) 3 1), (8, .box (smE s) 104)]⟩ (fun hJ14 => ?_) ?_
  ·apply yb;(iterate 2 refine ya ?_);refine ExF.at 2 ?_;refine yC ?_;(iterate 2 refine ExF.gi ?_);refine yA ?_;refine ye ?_;refine yk rfl ?_ ?_<;>intro hc3
   ·have h00 := hch.lf hc3;have hx := zcD (l := now) (i := s.Left) h00 (by omega);have hx1 := zjd (y := { (itg now s.Left) with Dur := subV (itg now s.Left).Dur u }) hx;have hrow : (now.set s.Left.toNat { (itg now s.Left) with Dur := subV (itg now s.Left).Dur u }).set s.Left.toNat (zag u (itg now s.Left)) = chA u s c now := by unfold chA; rw [if_pos hc3, set2]; rfl
    apply yd;refine zi [9,48,49,50,51,52,53,54] [0,1,3,7,0,16,63,127] mo ?_;refine yj ?_;refine yj ?_ (hs := by exact yo rfl);(iterate 6 refine yj ?_);refine yR ?_;apply Ex.nil;apply yd;refine X.drawQ [⟨0, 56, .ptr 2000001 12 s.Left.toNat 0, []⟩, ⟨1, 57, .ptr 2000001 12 s.Left.toNat 0, []⟩, ⟨2, 58, .ptr 2000001 12 s.Left.toNat 0, [1]⟩, ⟨3, 59, .ptr 2000001 12 s.Left.toNat 6, [1, 2]⟩, ⟨4, 60, tmA (itg now s.Left).Dur, [1, 2, 3]⟩, ⟨5, 61, .ptr 2000000 0 0 0, []⟩, ⟨6, 62, .ptr 2000000 0 0 0, [5]⟩, ⟨7, 63, .ptr 2000000 0 0 0, [5, 6]⟩, ⟨8, 64, tmA u, [5, 6, 7]⟩, ⟨9, 65, .tup [tmA (subV (itg now s.Left).Dur u), iv (subE (itg now s.Left).Dur u)], [5, 1, 6, 2, 7, 3, 8, 4]⟩, ⟨10, 55, .tup [tmA (subV (itg now s.Left).Dur u), iv (subE (itg now s.Left).Dur u)], [5, 1, 6, 2, 7, 3, 8, 4, 9]⟩, ⟨11, 66, tmA (subV (itg now s.Left).Dur u), [5, 1, 6, 2, 7, 3, 8, 4, 9, 10]⟩, ⟨12, 67, iv (subE (itg now s.Left).Dur u), [5, 1, 6, 2, 7, 3, 8, 4, 9, 10]⟩, ⟨13, 68, .ptr 2000001 12 s.Left.toNat 0, [11, 10, 9, 8, 7, 6, 5, 4, 3, 2, 1, 0]⟩, ⟨14, 69, .ptr 2000001 12 s.Left.toNat 6, [11, 10, 9, 8, 7, 6, 5, 4, 3, 2, 1, 0, 13]⟩] [(15, [13, 10, 8, 7, 6, 5, 4, 3, 2, 1, 0, 9, 11, 14])] (fun j => match j with | 0 => ⟨[(0, .ptr 2000000 0 0 0), (1, iv c), (8, .ptr 8 0 0 0), (9, .ptr 2000001 12 s.Left.toNat 0)], [(1000001, .hold vs [.ptr 2000000 0 0 0, .own 2000001]), (2000000, .box [iv u.N, iv u.D, iv k, itsA l, .own 2000001, smsA S, .own 2000002] 191), (2000001, .row itE (now) 62 12), (2000002, .row intE (M) 3 1), (8, .box (smE s) 104)]⟩ | _ => ⟨[(0, .ptr 2000000 0 0 0), (1, iv c), (8, .ptr 8 0 0 0), (9, .ptr 2000001 12 s.Left.toNat 0)], [(1000001, .hold vs [.ptr 2000000 0 0 0, .own 2000001]), (2000000, .box [iv u.N, iv u.D, iv k, itsA l, .own 2000001, smsA S, .own 2000002] 191), (2000001, .row itE (now.set s.Left.toNat { (itg now s.Left) with Dur := subV (itg now s.Left).Dur u }) 62 12), (2000002, .row intE (M) 3 1), (8, .box (smE s) 104)]⟩) mo (by kernel_rfl) (zE (yl)) (fun j hj => ?_) (fun j c hc β hβ => ?_) ?_
    ·rcases j with _ | _ | j
     ·(iterate 2 refine ⟨.inr ⟨_, rfl, rfl, rfl, rfl, Pur.stepA yQ⟩, ?_⟩);refine ⟨.inr ⟨_, rfl, rfl, rfl, rfl, Pur.stepA (yo rfl)⟩, ?_⟩;refine ⟨.inr ⟨_, rfl, rfl, rfl, rfl, Pur.stepA (zn rfl rfl)⟩, ?_⟩;refine ⟨.inr ⟨_, rfl, rfl, rfl, rfl, Pur.stepA (zg (n := 2) rfl rfl hx rfl rfl (by decide) rfl TyK.h)⟩, ?_⟩;refine ⟨.inr ⟨_, rfl, rfl, rfl, rfl, Pur.stepA yQ⟩, ?_⟩;refine ⟨.inr ⟨_, rfl, rfl, rfl, rfl, Pur.stepA (yo rfl)⟩, ?_⟩;refine ⟨.inr ⟨_, rfl, rfl, rfl, rfl, Pur.stepA (zn rfl rfl)⟩, ?_⟩;refine ⟨.inr ⟨_, rfl, rfl, rfl, rfl, Pur.stepA yQ⟩, ?_⟩;refine ⟨.inr ⟨_, rfl, rfl, rfl, rfl, zax rfl rfl rfl (LeL.refl _) (zak (itg now s.Left).Dur u)⟩, ?_⟩;exact yS
     ·exact yS
     ·exact absurd (show j + 2 <= 1 from hj) (by omega)
    ·rcases j with _ | j
     ·obtain rfl : (15, [13, 10, 8, 7, 6, 5, 4, 3, 2, 1, 0, 9, 11, 14]) = c := by injection hc
      refine yw rfl (yG (st0 := ⟨[(56, .ptr 2000001 12 s.Left.toNat 0), (57, .ptr 2000001 12 s.Left.toNat 0), (58, .ptr 2000001 12 s.Left.toNat 0), (59, .ptr 2000001 12 s.Left.toNat 6), (60, tmA (itg now s.Left).Dur), (61, .ptr 2000000 0 0 0), (62, .ptr 2000000 0 0 0), (63, .ptr 2000000 0 0 0), (64, tmA u), (65, .tup [tmA (subV (itg now s.Left).Dur u), iv (subE (itg now s.Left).Dur u)]), (55, .tup [tmA (subV (itg now s.Left).Dur u), iv (subE (itg now s.Left).Dur u)]), (66, tmA (subV (itg now s.Left).Dur u)), (67, .ifb (β 12) (iv (subE (itg now s.Left).Dur u))), (68, .ptr 2000001 12 s.Left.toNat 0), (69, .ptr 2000001 12 s.Left.toNat 6), (0, .ptr 2000000 0 0 0), (1, iv c), (8, .ptr 8 0 0 0), (9, .ptr 2000001 12 s.Left.toNat 0)], [(1000001, .hold vs [.ptr 2000000 0 0 0, .own 2000001]), (2000000, .box [iv u.N, iv u.D, iv k, itsA l, .own 2000001, smsA S, .own 2000002] 191), (2000001, .row itE (now) 62 12), (2000002, .row intE (M) 3 1), (8, .box (smE s) 104)]⟩) (yE) ?_);refine yq (zf (n := 2) (itg now s.Left) { (itg now s.Left) with Dur := subV (itg now s.Left).Dur u } rfl rfl hx (fun _ => rfl) (by decide) rfl rfl rfl (by decide) rfl rfl rfl TyK.h) (yE)
     ·exact absurd hc (by simp)
    refine X.drawQ [⟨0, 71, .ptr 2000001 12 s.Left.toNat 0, []⟩, ⟨1, 72, .ptr 2000001 12 s.Left.toNat 0, []⟩, ⟨2, 73, .ptr 2000001 12 s.Left.toNat 0, [1]⟩, ⟨3, 74, .ptr 2000001 12 s.Left.toNat 10, [1, 2]⟩, ⟨4, 75, tmA (itg now s.Left).After, [1, 2, 3]⟩, ⟨5, 76, .ptr 2000000 0 0 0, []⟩, ⟨6, 77, .ptr 2000000 0 0 0, [5]⟩, ⟨7, 78, .ptr 2000000 0 0 0, [5, 6]⟩, ⟨8, 79, tmA u, [5, 6, 7]⟩, ⟨9, 80, .tup [tmA (addV (itg now s.Left).After u), iv (addE (itg now s.Left).After u)], [5, 1, 6, 2, 7, 3, 8, 4]⟩, ⟨10, 70, .tup [tmA (addV (itg now s.Left).After u), iv (addE (itg now s.Left).After u)], [5, 1, 6, 2, 7, 3, 8, 4, 9]⟩, ⟨11, 81, tmA (addV (itg now s.Left).After u), [5, 1, 6, 2, 7, 3, 8, 4, 9, 10]⟩, ⟨12, 82, iv (addE (itg now s.Left).After u), [5, 1, 6, 2, 7, 3, 8, 4, 9, 10]⟩, ⟨13, 83, .ptr 2000001 12 s.Left.toNat 0, [11, 10, 9, 8, 7, 6, 5, 4, 3, 2, 1, 0]⟩, ⟨14, 84, .ptr 2000001 12 s.Left.toNat 10, [11, 10, 9, 8, 7, 6, 5, 4, 3, 2, 1, 0, 13]⟩] [(15, [13, 10, 8, 7, 6, 5, 4, 3, 2, 1, 0, 9, 11, 14])] (fun j => match j with | 0 => ⟨[(0, .ptr 2000000 0 0 0), (1, iv c), (8, .ptr 8 0 0 0), (9, .ptr 2000001 12 s.Left.toNat 0)], [(1000001, .hold vs [.ptr 2000000 0 0 0, .own 2000001]), (2000000, .box [iv u.N, iv u.D, iv k, itsA l, .own 2000001, smsA S, .own 2000002] 191), (2000001, .row itE (now.set s.Left.toNat { (itg now s.Left) with Dur := subV (itg now s.Left).Dur u }) 62 12), (2000002, .row intE (M) 3 1), (8, .box (smE s) 104)]⟩ | _ => ⟨[(0, .ptr 2000000 0 0 0), (1, iv c), (8, .ptr 8 0 0 0), (9, .ptr 2000001 12 s.Left.toNat 0)], [(1000001, .hold vs [.ptr 2000000 0 0 0, .own 2000001]), (2000000, .box [iv u.N, iv u.D, iv k, itsA l, .own 2000001, smsA S, .own 2000002] 191), (2000001, .row itE ((now.set s.Left.toNat { (itg now s.Left) with Dur := subV (itg now s.Left).Dur u }).set s.Left.toNat (zag u (itg now s.Left))) 62 12), (2000002, .row intE (M) 3 1), (8, .box (smE s) 104)]⟩) mo (by kernel_rfl) (zE (yl)) (fun j hj => ?_) (fun j c hc β hβ => ?_) ?_
    ·rcases j with _ | _ | j
     ·(iterate 2 refine ⟨.inr ⟨_, rfl, rfl, rfl, rfl, Pur.stepA yQ⟩, ?_⟩);refine ⟨.inr ⟨_, rfl, rfl, rfl, rfl, Pur.stepA (yo rfl)⟩, ?_⟩;refine ⟨.inr ⟨_, rfl, rfl, rfl, rfl, Pur.stepA (zn rfl rfl)⟩, ?_⟩;refine ⟨.inr ⟨_, rfl, rfl, rfl, rfl, Pur.stepA (zg (n := 2) rfl rfl hx1 rfl rfl (by decide) rfl TyK.h)⟩, ?_⟩;refine ⟨.inr ⟨_, rfl, rfl, rfl, rfl, Pur.stepA yQ⟩, ?_⟩;refine ⟨.inr ⟨_, rfl, rfl, rfl, rfl, Pur.stepA (yo rfl)⟩, ?_⟩;refine ⟨.inr ⟨_, rfl, rfl, rfl, rfl, Pur.stepA (zn rfl rfl)⟩, ?_⟩;refine ⟨.inr ⟨_, rfl, rfl, rfl, rfl, Pur.stepA yQ⟩, ?_⟩;refine ⟨.inr ⟨_, rfl, rfl, rfl, rfl, zax rfl rfl rfl (LeL.refl _) (zk (itg now s.Left).After u)⟩, ?_⟩;exact yS
     ·exact yS
     ·exact absurd (show j + 2 <= 1 from hj) (by omega)
    ·rcases j with _ | j
     ·obtain rfl : (15, [13, 10, 8, 7, 6, 5, 4, 3, 2, 1, 0, 9, 11, 14]) = c := by injection hc
      refine yw rfl (yG (st0 := ⟨[(71, .ptr 2000001 12 s.Left.toNat 0), (72, .ptr 2000001 12 s.Left.toNat 0), (73, .ptr 2000001 12 s.Left.toNat 0), (74, .ptr 2000001 12 s.Left.toNat 10), (75, tmA (itg now s.Left).After), (76, .ptr 2000000 0 0 0), (77, .ptr 2000000 0 0 0), (78, .ptr 2000000 0 0 0), (79, tmA u), (80, .tup [tmA (addV (itg now s.Left).After u), iv (addE (itg now s.Left).After u)]), (70, .tup [tmA (addV (itg now s.Left).After u), iv (addE (itg now s.Left).After u)]), (81, tmA (addV (itg now s.Left).After u)), (82, .ifb (β 12) (iv (addE (itg now s.Left).After u))), (83, .ptr 2000001 12 s.Left.toNat 0), (84, .ptr 2000001 12 s.Left.toNat 10), (0, .ptr 2000000 0 0 0), (1, iv c), (8, .ptr 8 0 0 0), (9, .ptr 2000001 12 s.Left.toNat 0)], [(1000001, .hold vs [.ptr 2000000 0 0 0, .own 2000001]), (2000000, .box [iv u.N, iv u.D, iv k, itsA l, .own 2000001, smsA S, .own 2000002] 191), (2000001, .row itE (now.set s.Left.toNat { (itg now s.Left) with Dur := subV (itg now s.Left).Dur u }) 62 12), (2000002, .row intE (M) 3 1), (8, .box (smE s) 104)]⟩) (yE) ?_);refine yq (zf (n := 2) { (itg now s.Left) with Dur := subV (itg now s.Left).Dur u } (zag u (itg now s.Left)) rfl rfl hx1 (fun _ => rfl) (by decide) rfl rfl rfl (by decide) rfl rfl rfl TyK.h) (yE)
     ·exact absurd hc (by simp)
    exact y3 yx hJ14
   ·have hrow : now = chA u s c now := by unfold chA; rw [if_neg (by omega)]
    apply yf;exact y3 yx hJ14
  refine zc6 ⟨[(0, .ptr 2000000 0 0 0), (1, iv c), (8, .ptr 8 0 0 0)], [(1000001, .hold vs [.ptr 2000000 0 0 0, .own 2000001]), (2000000, .box [iv u.N, iv u.D, iv k, itsA l, .own 2000001, smsA S, .own 2000002] 191), (2000001, .row itE (chB u s c now) 62 12), (2000002, .row intE (M) 3 1), (8, .box (smE s) 104)]⟩ (fun hJ18 => ?_) ?_
  ·apply yb;(iterate 2 refine ya ?_);refine ExF.at 2 ?_;refine yC ?_;(iterate 2 refine ExF.gi ?_);refine yA ?_;refine ye ?_;refine yk rfl ?_ ?_<;>intro hc4
   ·have h00 := hch.rt hc4;have hx := zcD (l := chA u s c now) (i := s.Right) h00 (by omega);have hx1 := zjd (y := { (itg (chA u s c now) s.Right) with Dur := subV (itg (chA u s c now) s.Right).Dur u }) hx;have hrow : ((chA u s c now).set s.Right.toNat { (itg (chA u s c now) s.Right) with Dur := subV (itg (chA u s c now) s.Right).Dur u }).set s.Right.toNat (zal u (itg (chA u s c now) s.Right)) = chB u s c now := by unfold chB; rw [if_pos hc4, set2]; rfl
    apply yd;refine zi [10,91,92,93,94,95,96,97] [0,1,3,7,0,16,63,127] mo ?_;refine yj ?_;refine yj ?_ (hs := by exact yo rfl);(iterate 6 refine yj ?_);refine yR ?_;apply Ex.nil;apply yd;refine X.drawQ [⟨0, 99, .ptr 2000001 12 s.Right.toNat 0, []⟩, ⟨1, 100, .ptr 2000001 12 s.Right.toNat 0, []⟩, ⟨2, 101, .ptr 2000001 12 s.Right.toNat 0, [1]⟩, ⟨3, 102, .ptr 2000001 12 s.Right.toNat 6, [1, 2]⟩, ⟨4, 103, tmA (itg (chA u s c now) s.Right).Dur, [1, 2, 3]⟩, ⟨5, 104, .ptr 2000000 0 0 0, []⟩, ⟨6, 105, .ptr 2000000 0 0 0, [5]⟩, ⟨7, 106, .ptr 2000000 0 0 0, [5, 6]⟩, ⟨8, 107, tmA u, [5, 6, 7]⟩, ⟨9, 108, .tup [tmA (subV (itg (chA u s c now) s.Right).Dur u), iv (subE (itg (chA u s c now) s.Right).Dur u)], [5, 1, 6, 2, 7, 3, 8, 4]⟩, ⟨10, 98, .tup [tmA (subV (itg (chA u s c now) s.Right).Dur u), iv (subE (itg (chA u s c now) s.Right).Dur u)], [5, 1, 6, 2, 7, 3, 8, 4, 9]⟩, ⟨11, 109, tmA (subV (itg (chA u s c now) s.Right).Dur u), [5, 1, 6, 2, 7, 3, 8, 4, 9, 10]⟩, ⟨12, 110, iv (subE (itg (chA u s c now) s.Right).Dur u), [5, 1, 6, 2, 7, 3, 8, 4, 9, 10]⟩, ⟨13, 111, .ptr 2000001 12 s.Right.toNat 0, [11, 10, 9, 8, 7, 6, 5, 4, 3, 2, 1, 0]⟩, ⟨14, 112, .ptr 2000001 12 s.Right.toNat 6, [11, 10, 9, 8, 7, 6, 5, 4, 3, 2, 1, 0, 13]⟩] [(15, [13, 10, 8, 7, 6, 5, 4, 3, 2, 1, 0, 9, 11, 14])] (fun j => match j with | 0 => ⟨[(0, .ptr 2000000 0 0 0), (1, iv c), (8, .ptr 8 0 0 0), (10, .ptr 2000001 12 s.Right.toNat 0)], [(1000001, .hold vs [.ptr 2000000 0 0 0, .own 2000001]), (2000000, .box [iv u.N, iv u.D, iv k, itsA l, .own 2000001, smsA S, .own 2000002] 191), (2000001, .row itE (chA u s c now) 62 12), (2000002, .row intE (M) 3 1), (8, .box (smE s) 104)]⟩ | _ => ⟨[(0, .ptr 2000000 0 0 0), (1, iv c), (8, .ptr 8 0 0 0), (10, .ptr 2000001 12 s.Right.toNat 0)], [(1000001, .hold vs [.ptr 2000000 0 0 0, .own 2000001]), (2000000, .box [iv u.N, iv u.D, iv k, itsA l, .own 2000001, smsA S, .own 2000002] 191), (2000001, .row itE ((chA u s c now).set s.Right.toNat { (itg (chA u s c now) s.Right) with Dur := subV (itg (chA u s c now) s.Right).Dur u }) 62 12), (2000002, .row intE (M) 3 1), (8, .box (smE s) 104)]⟩) mo (by kernel_rfl) (zE (yl)) (fun j hj => ?_) (fun j c hc β hβ => ?_) ?_
    ·rcases j with _ | _ | j
     ·(iterate 2 refine ⟨.inr ⟨_, rfl, rfl, rfl, rfl, Pur.stepA yQ⟩, ?_⟩);refine ⟨.inr ⟨_, rfl, rfl, rfl, rfl, Pur.stepA (yo rfl)⟩, ?_⟩;refine ⟨.inr ⟨_, rfl, rfl, rfl, rfl, Pur.stepA (zn rfl rfl)⟩, ?_⟩;refine ⟨.inr ⟨_, rfl, rfl, rfl, rfl, Pur.stepA (zg (n := 2) rfl rfl hx rfl rfl (by decide) rfl TyK.h)⟩, ?_⟩;refine ⟨.inr ⟨_, rfl, rfl, rfl, rfl, Pur.stepA yQ⟩, ?_⟩;refine ⟨.inr ⟨_, rfl, rfl, rfl, rfl, Pur.stepA (yo rfl)⟩, ?_⟩;refine ⟨.inr ⟨_, rfl, rfl, rfl, rfl, Pur.stepA (zn rfl rfl)⟩, ?_⟩;refine ⟨.inr ⟨_, rfl, rfl, rfl, rfl, Pur.stepA yQ⟩, ?_⟩;refine ⟨.inr ⟨_, rfl, rfl, rfl, rfl, zax rfl rfl rfl (LeL.refl _) (zak (itg (chA u s c now) s.Right).Dur u)⟩, ?_⟩;exact yS
     ·exact yS
     ·exact absurd (show j + 2 <= 1 from hj) (by omega)
    ·rcases j with _ | j
     ·obtain rfl : (15, [13, 10, 8, 7, 6, 5, 4, 3, 2, 1, 0, 9, 11, 14]) = c := by injection hc
      refine yw rfl (yG (st0 := ⟨[(99, .ptr 2000001 12 s.Right.toNat 0), (100, .ptr 2000001 12 s.Right.toNat 0), (101, .ptr 2000001 12 s.Right.toNat 0), (102, .ptr 2000001 12 s.Right.toNat 6), (103, tmA (itg (chA u s c now) s.Right).Dur), (104, .ptr 2000000 0 0 0), (105, .ptr 2000000 0 0 0), (106, .ptr 2000000 0 0 0), (107, tmA u), (108, .tup [tmA (subV (itg (chA u s c now) s.Right).Dur u), iv (subE (itg (chA u s c now) s.Right).Dur u)]), (98, .tup [tmA (subV (itg (chA u s c now) s.Right).Dur u), iv (subE (itg (chA u s c now) s.Right).Dur u)]), (109, tmA (subV (itg (chA u s c now) s.Right).Dur u)), (110, .ifb (β 12) (iv (subE (itg (chA u s c now) s.Right).Dur u))), (111, .ptr 2000001 12 s.Right.toNat 0), (112, .ptr 2000001 12 s.Right.toNat 6), (0, .ptr 2000000 0 0 0), (1, iv c), (8, .ptr 8 0 0 0), (10, .ptr 2000001 12 s.Right.toNat 0)], [(1000001, .hold vs [.ptr 2000000 0 0 0, .own 2000001]), (2000000, .box [iv u.N, iv u.D, iv k, itsA l, .own 2000001, smsA S, .own 2000002] 191), (2000001, .row itE (chA u s c now) 62 12), (2000002, .row intE (M) 3 1), (8, .box (smE s) 104)]⟩) (yE) ?_);refine yq (zf (n := 2) (itg (chA u s c now) s.Right) { (itg (chA u s c now) s.Right) with Dur := subV (itg (chA u s c now) s.Right).Dur u } rfl rfl hx (fun _ => rfl) (by decide) rfl rfl rfl (by decide) rfl rfl rfl TyK.h) (yE)
     ·exact absurd hc (by simp)
    refine X.drawQ [⟨0, 114, .ptr 2000001 12 s.Right.toNat 0, []⟩, ⟨1, 115, .ptr 2000001 12 s.Right.toNat 0, []⟩, ⟨2, 116, .ptr 2000001 12 s.Right.toNat 0, [1]⟩, ⟨3, 117, .ptr 2000001 12 s.Right.toNat 8, [1, 2]⟩, ⟨4, 118, tmA (itg (chA u s c now) s.Right).Before, [1, 2, 3]⟩, ⟨5, 119, .ptr 2000000 0 0 0, []⟩, ⟨6, 120, .ptr 2000000 0 0 0, [5]⟩, ⟨7, 121, .ptr 2000000 0 0 0, [5, 6]⟩, ⟨8, 122, tmA u, [5, 6, 7]⟩, ⟨9, 123, .tup [tmA (addV (itg (chA u s c now) s.Right).Before u), iv (addE (itg (chA u s c now) s.Right).Before u)], [5, 1, 6, 2, 7, 3, 8, 4]⟩, ⟨10, 113, .tup [tmA (addV (itg (chA u s c now) s.Right).Before u), iv (addE (itg (chA u s c now) s.Right).Before u)], [5, 1, 6, 2, 7, 3, 8, 4, 9]⟩, ⟨11, 124, tmA (addV (itg (chA u s c now) s.Right).Before u), [5, 1, 6, 2, 7, 3, 8, 4, 9, 10]⟩, ⟨12, 125, iv (addE (itg (chA u s c now) s.Right).Before u), [5, 1, 6, 2, 7, 3, 8, 4, 9, 10]⟩, ⟨13, 126, .ptr 2000001 12 s.Right.toNat 0, [11, 10, 9, 8, 7, 6, 5, 4, 3, 2, 1, 0]⟩, ⟨14, 127, .ptr 2000001 12 s.Right.toNat 8, [11, 10, 9, 8, 7, 6, 5, 4, 3, 2, 1, 0, 13]⟩] [(15, [13, 10, 8, 7, 6, 5, 4, 3, 2, 1, 0, 9, 11, 14])] (fun j => match j with | 0 => ⟨[(0, .ptr 2000000 0 0 0), (1, iv c), (8, .ptr 8 0 0 0), (10, .ptr 2000001 12 s.Right.toNat 0)], [(1000001, .hold vs [.ptr 2000000 0 0 0, .own 2000001]), (2000000, .box [iv u.N, iv u.D, iv k, itsA l, .own 2000001, smsA S, .own 2000002] 191), (2000001, .row itE ((chA u s c now).set s.Right.toNat { (itg (chA u s c now) s.Right) with Dur := subV (itg (chA u s c now) s.Right).Dur u }) 62 12), (2000002, .row intE (M) 3 1), (8, .box (smE s) 104)]⟩ | _ => ⟨[(0, .ptr 2000000 0 0 0), (1, iv c), (8, .ptr 8 0 0 0), (10, .ptr 2000001 12 s.Right.toNat 0)], [(1000001, .hold vs [.ptr 2000000 0 0 0, .own 2000001]), (2000000, .box [iv u.N, iv u.D, iv k, itsA l, .own 2000001, smsA S, .own 2000002] 191), (2000001, .row itE (((chA u s c now).set s.Right.toNat { (itg (chA u s c now) s.Right) with Dur := subV (itg (chA u s c now) s.Right).Dur u }).set s.Right.toNat (zal u (itg (chA u s c now) s.Right))) 62 12), (2000002, .row intE (M) 3 1), (8, .box (smE s) 104)]⟩) mo (by kernel_rfl) (zE (yl)) (fun j hj => ?_) (fun j c hc β hβ => ?_) ?_
    ·rcases j with _ | _ | j
     ·(iterate 2 refine ⟨.inr ⟨_, rfl, rfl, rfl, rfl, Pur.stepA yQ⟩, ?_⟩);refine ⟨.inr ⟨_, rfl, rfl, rfl, rfl, Pur.stepA (yo rfl)⟩, ?_⟩;refine ⟨.inr ⟨_, rfl, rfl, rfl, rfl, Pur.stepA (zn rfl rfl)⟩, ?_⟩;refine ⟨.inr ⟨_, rfl, rfl, rfl, rfl, Pur.stepA (zg (n := 2) rfl rfl hx1 rfl rfl (by decide) rfl TyK.h)⟩, ?_⟩;refine ⟨.inr ⟨_, rfl, rfl, rfl, rfl, Pur.stepA yQ⟩, ?_⟩;refine ⟨.inr ⟨_, rfl, rfl, rfl, rfl, Pur.stepA (yo rfl)⟩, ?_⟩;refine ⟨.inr ⟨_, rfl, rfl, rfl, rfl, Pur.stepA (zn rfl rfl)⟩, ?_⟩;refine ⟨.inr ⟨_, rfl, rfl, rfl, rfl, Pur.stepA yQ⟩, ?_⟩;refine ⟨.inr ⟨_, rfl, rfl, rfl, rfl, zax rfl rfl rfl (LeL.refl _) (zk (itg (chA u s c now) s.Right).Before u)⟩, ?_⟩;exact yS
     ·exact yS
     ·exact absurd (show j + 2 <= 1 from hj) (by omega)
    ·rcases j with _ | j
     ·obtain rfl : (15, [13, 10, 8, 7, 6, 5, 4, 3, 2, 1, 0, 9, 11, 14]) = c := by injection hc
      refine yw rfl (yG (st0 := ⟨[(114, .ptr 2000001 12 s.Right.toNat 0), (115, .ptr 2000001 12 s.Right.toNat 0), (116, .ptr 2000001 12 s.Right.toNat 0), (117, .ptr 2000001 12 s.Right.toNat 8), (118, tmA (itg (chA u s c now) s.Right).Before), (119, .ptr 2000000 0 0 0), (120, .ptr 2000000 0 0 0), (121, .ptr 2000000 0 0 0), (122, tmA u), (123, .tup [tmA (addV (itg (chA u s c now) s.Right).Before u), iv (addE (itg (chA u s c now) s.Right).Before u)]), (113, .tup [tmA (addV (itg (chA u s c now) s.Right).Before u), iv (addE (itg (chA u s c now) s.Right).Before u)]), (124, tmA (addV (itg (chA u s c now) s.Right).Before u)), (125, .ifb (β 12) (iv (addE (itg (chA u s c now) s.Right).Before u))), (126, .ptr 2000001 12 s.Right.toNat 0), (127, .ptr 2000001 12 s.Right.toNat 8), (0, .ptr 2000000 0 0 0), (1, iv c), (8, .ptr 8 0 0 0), (10, .ptr 2000001 12 s.Right.toNat 0)], [(1000001, .hold vs [.ptr 2000000 0 0 0, .own 2000001]), (2000000, .box [iv u.N, iv u.D, iv k, itsA l, .own 2000001, smsA S, .own 2000002] 191), (2000001, .row itE ((chA u s c now).set s.Right.toNat { (itg (chA u s c now) s.Right) with Dur := subV (itg (chA u s c now) s.Right).Dur u }) 62 12), (2000002, .row intE (M) 3 1), (8, .box (smE s) 104)]⟩) (yE) ?_);refine yq (zf (n := 2) { (itg (chA u s c now) s.Right) with Dur := subV (itg (chA u s c now) s.Right).Dur u } (zal u (itg (chA u s c now) s.Right)) rfl rfl hx1 (fun _ => rfl) (by decide) rfl rfl rfl (by decide) rfl rfl rfl TyK.h) (yE)
     ·exact absurd hc (by simp)
    exact y3 yx hJ18
   ·have hrow : chA u s c now = chB u s c now := by unfold chB; rw [if_neg (by omega)]
    apply yf;exact y3 yx hJ18
  apply yd;apply yb;refine yh ?_;refine yk rfl ?_ ?_<;>intro hc5
  ·have h00 := hch.al hc5;have hx := zcD (l := chB u s c now) (i := s.To - 1) (by omega) (by omega);have hrow : (chB u s c now).set (s.To - 1).toNat (dblI (itg (chB u s c now) (s.To - 1))) = chN u s c now := by rw [zlM, if_pos hc5]; rfl
   apply yd;refine zi [11,130,131,132,133,134,135,136,137] [0,1,3,7,0,16,48,127,255] mo ?_;refine yj ?_;refine yj ?_ (hs := by exact yo rfl);(iterate 7 refine yj ?_);refine yR ?_;apply Ex.nil;refine X.drawQ [⟨0, 139, .ptr 2000001 12 (s.To - 1).toNat 0, []⟩, ⟨1, 140, .ptr 2000001 12 (s.To - 1).toNat 0, []⟩, ⟨2, 141, .ptr 2000001 12 (s.To - 1).toNat 0, [1]⟩, ⟨3, 142, .ptr 2000001 12 (s.To - 1).toNat 6, [1, 2]⟩, ⟨4, 143, tmA (itg (chB u s c now) (s.To - 1)).Dur, [1, 2, 3]⟩, ⟨5, 144, .ptr 2000001 12 (s.To - 1).toNat 0, []⟩, ⟨6, 145, .ptr 2000001 12 (s.To - 1).toNat 0, [5]⟩, ⟨7, 146, .ptr 2000001 12 (s.To - 1).toNat 6, [5, 6]⟩, ⟨8, 147, tmA (itg (chB u s c now) (s.To - 1)).Dur, [5, 6, 7]⟩, ⟨9, 148, .tup [tmA (addV (itg (chB u s c now) (s.To - 1)).Dur (itg (chB u s c now) (s.To - 1)).Dur), iv (addE (itg (chB u s c now) (s.To - 1)).Dur (itg (chB u s c now) (s.To - 1)).Dur)], [5, 1, 6, 2, 7, 3, 8, 4]⟩, ⟨10, 138, .tup [tmA (addV (itg (chB u s c now) (s.To - 1)).Dur (itg (chB u s c now) (s.To - 1)).Dur), iv (addE (itg (chB u s c now) (s.To - 1)).Dur (itg (chB u s c now) (s.To - 1)).Dur)], [5, 1, 6, 2, 7, 3, 8, 4, 9]⟩, ⟨11, 149, tmA (addV (itg (chB u s c now) (s.To - 1)).Dur (itg (chB u s c now) (s.To - 1)).Dur), [5, 1, 6, 2, 7, 3, 8, 4, 9, 10]⟩, ⟨12, 150, iv (addE (itg (chB u s c now) (s.To - 1)).Dur (itg (chB u s c now) (s.To - 1)).Dur), [5, 1, 6, 2, 7, 3, 8, 4, 9, 10]⟩, ⟨13, 151, .ptr 2000001 12 (s.To - 1).toNat 0, [11, 10, 9, 8, 7, 6, 5, 4, 3, 2, 1, 0]⟩, ⟨14, 152, .ptr 2000001 12 (s.To - 1).toNat 6, [11, 10, 9, 8, 7, 6, 5, 4, 3, 2, 1, 0, 13]⟩] [(15, [13, 10, 8, 7, 6, 5, 4, 3, 2, 1, 0, 9, 11, 14])] (fun j => match j with | 0 => ⟨[(0, .ptr 2000000 0 0 0), (1, iv c), (8, .ptr 8 0 0 0), (11, .ptr 2000001 12 (s.To - 1).toNat 0)], [(1000001, .hold vs [.ptr 2000000 0 0 0, .own 2000001]), (2000000, .box [iv u.N, iv u.D, iv k, itsA l, .own 2000001, smsA S, .own 2000002] 191), (2000001, .row itE (chB u s c now) 62 12), (2000002, .row intE (M) 3 1), (8, .box (smE s) 104)]⟩ | _ => ⟨[(0, .ptr 2000000 0 0 0), (1, iv c), (8, .ptr 8 0 0 0), (11, .ptr 2000001 12 (s.To - 1).toNat 0)], [(1000001, .hold vs [.ptr 2000000 0 0 0, .own 2000001]), (2000000, .box [iv u.N, iv u.D, iv k, itsA l, .own 2000001, smsA S, .own 2000002] 191), (2000001, .row itE ((chB u s c now).set (s.To - 1).toNat (dblI (itg (chB u s c now) (s.To - 1)))) 62 12), (2000002, .row intE (M) 3 1), (8, .box (smE s) 104)]⟩) mo (by kernel_rfl) (zE (yl)) (fun j hj => ?_) (fun j c hc β hβ => ?_) ?_
   ·rcases j with _ | _ | j
    ·(iterate 2 refine ⟨.inr ⟨_, rfl, rfl, rfl, rfl, Pur.stepA yQ⟩, ?_⟩);refine ⟨.inr ⟨_, rfl, rfl, rfl, rfl, Pur.stepA (yo rfl)⟩, ?_⟩;refine ⟨.inr ⟨_, rfl, rfl, rfl, rfl, Pur.stepA (zn rfl rfl)⟩, ?_⟩;refine ⟨.inr ⟨_, rfl, rfl, rfl, rfl, Pur.stepA (zg (n := 2) rfl rfl hx rfl rfl (by decide) rfl TyK.h)⟩, ?_⟩;refine ⟨.inr ⟨_, rfl, rfl, rfl, rfl, Pur.stepA yQ⟩, ?_⟩;refine ⟨.inr ⟨_, rfl, rfl, rfl, rfl, Pur.stepA (yo rfl)⟩, ?_⟩;refine ⟨.inr ⟨_, rfl, rfl, rfl, rfl, Pur.stepA (zn rfl rfl)⟩, ?_⟩;refine ⟨.inr ⟨_, rfl, rfl, rfl, rfl, Pur.stepA (zg (n := 2) rfl rfl hx rfl rfl (by decide) rfl TyK.h)⟩, ?_⟩;refine ⟨.inr ⟨_, rfl, rfl, rfl, rfl, zax rfl rfl rfl (LeL.refl _) (zk (itg (chB u s c now) (s.To - 1)).Dur (itg (chB u s c now) (s.To - 1)).Dur)⟩, ?_⟩;exact yS
    ·exact yS
    ·exact absurd (show j + 2 <= 1 from hj) (by omega)
   ·rcases j with _ | j
    ·obtain rfl : (15, [13, 10, 8, 7, 6, 5, 4, 3, 2, 1, 0, 9, 11, 14]) = c := by injection hc
     refine yw rfl (yG (st0 := ⟨[(139, .ptr 2000001 12 (s.To - 1).toNat 0), (140, .ptr 2000001 12 (s.To - 1).toNat 0), (141, .ptr 2000001 12 (s.To - 1).toNat 0), (142, .ptr 2000001 12 (s.To - 1).toNat 6), (143, tmA (itg (chB u s c now) (s.To - 1)).Dur), (144, .ptr 2000001 12 (s.To - 1).toNat 0), (145, .ptr 2000001 12 (s.To - 1).toNat 0), (146, .ptr 2000001 12 (s.To - 1).toNat 6), (147, tmA (itg (chB u s c now) (s.To - 1)).Dur), (148, .tup [tmA (addV (itg (chB u s c now) (s.To - 1)).Dur (itg (chB u s c now) (s.To - 1)).Dur), iv (addE (itg (chB u s c now) (s.To - 1)).Dur (itg (chB u s c now) (s.To - 1)).Dur)]), (138, .tup [tmA (addV (itg (chB u s c now) (s.To - 1)).Dur (itg (chB u s c now) (s.To - 1)).Dur), iv (addE (itg (chB u s c now) (s.To - 1)).Dur (itg (chB u s c now) (s.To - 1)).Dur)]), (149, tmA (addV (itg (chB u s c now) (s.To - 1)).Dur (itg (chB u s c now) (s.To - 1)).Dur)), (150, .ifb (β 12) (iv (addE (itg (chB u s c now) (s.To - 1)).Dur (itg (chB u s c now) (s.To - 1)).Dur))), (151, .ptr 2000001 12 (s.To - 1).toNat 0), (152, .ptr 2000001 12 (s.To - 1).toNat 6), (0, .ptr 2000000 0 0 0), (1, iv c), (8, .ptr 8 0 0 0), (11, .ptr 2000001 12 (s.To - 1).toNat 0)], [(1000001, .hold vs [.ptr 2000000 0 0 0, .own 2000001]), (2000000, .box [iv u.N, iv u.D, iv k, itsA l, .own 2000001, smsA S, .own 2000002] 191), (2000001, .row itE (chB u s c now) 62 12), (2000002, .row intE (M) 3 1), (8, .box (smE s) 104)]⟩) (yE) ?_);refine yq (zf (n := 2) (itg (chB u s c now) (s.To - 1)) (dblI (itg (chB u s c now) (s.To - 1))) rfl rfl hx (fun _ => rfl) (by decide) rfl rfl rfl (by decide) rfl rfl rfl TyK.h) (yE)
    ·exact absurd hc (by simp)
   apply yb;(iterate 2 refine ya ?_);refine ya ?_ (hs := by exact yo rfl);(iterate 3 refine ya ?_);refine yO intE [_] ?_;refine yi ?_;refine ya ?_ (hs := by exact yo rfl);refine ya ?_;refine yi ?_;apply yn;refine ye ?_;refine X.ret ?_;refine zcC (Imp.mv 2000002 2000012 rfl rfl) ?_;refine zlC.mk [(4, .bool true)] [] (.inr rfl) (.one (.tmp rfl (LeV.eq ?_)));all_goals (rfl)
  ·have hrow : chB u s c now = chN u s c now := by rw [zlM, if_neg hc5]
   apply yf;apply yb;(iterate 2 refine ya ?_);refine ya ?_ (hs := by exact yo rfl);(iterate 3 refine ya ?_);refine yO intE [_] ?_;refine yi ?_;refine ya ?_ (hs := by exact yo rfl);refine ya ?_;refine yi ?_;apply yn;refine ye ?_;refine X.ret ?_;refine zcC (Imp.mv 2000002 2000012 rfl rfl) ?_;refine zlC.mk [(4, .bool true)] [] (.inr rfl) (.one (.tmp rfl (LeV.eq ?_)));all_goals (rfl)
end Go.Rse
namespace Go.Rse
open Go Go.Proofs
attribute [local irreducible] Pur yK yM Ex X Fn Imp LeV LeB FnO It yW FnW FnOW
theorem zhz {u : Tm} {k : Int} {S : List Sgm} {l now : List Ite} {M : List Int} {n : Nat} : rfA u k S l now (M.take n) n = rfA u k S l now M n := by
 have : rfLo (M.take n) n = rfLo M n := by
  unfold rfLo;cases n with
  | zero => rfl
  | succ n =>
   have : (M.take (n + 1)).getD (n + 1 - 1) 0 = M.getD (n + 1 - 1) 0 := by
    rw [List.getD_eq_getElem?_getD, List.getD_eq_getElem?_getD, List.getElem?_take, if_pos (by omega)]
   rw [this]
 unfold rfA; simp only; rw [this]
theorem ze6 {l : List Int} {j : Nat} {x : Int} (h : l[j]? = some x) : l.take j ++ [x] = l.take (j + 1) := by
 rw [List.take_add_one, h]; rfl
attribute [local irreducible] stK okJ alK alQ chN chL segV segE unT rfA
theorem zde (m : Mn) (k : Int) (l : List Ite) (h0 : -9223372036854775808 <= k) (h1 : k <= 9223372036854775807) (hl : l.length <= 1000000) (hE : ¬ segE m k l = 0) : Fn Tryz.prog 133 [mnA m, iv k, itsA l] (.tup [.val (.pointer none), iv (segE m k l)]) := by
 refine Fn.go Tryz.func133 Tryz.ntmps133 (fun g w d => ?_);apply yb;refine yH ?_;iterate 2 refine ya ?_
 apply yn;iterate 3 refine ya ?_
 refine yr (zaf m k l h0 h1 hl) ?_;refine y4 ?_;apply yd;apply yb;refine yh ?_;refine yk rfl ?_ ?_<;>intro hc1
 ·apply yb;refine yp ?_;refine X.ret ?_;refine yz ?_ ?_;all_goals (first | rfl | (simp_all; done))
 exact absurd hc1 hE
theorem zJ (m : Mn) (k : Int) (l : List Ite) (h0 : -9223372036854775808 <= k) (h1 : k <= 9223372036854775807) (hl : l.length <= 1000000) (hE : segE m k l = 0) : FnO Tryz.prog 133 [mnA m, iv k, itsA l] [] [] (.tup [.ptr 36 0 0 0, iv 0]) [(36, .box [iv (unT m k).N, iv (unT m k).D, iv k, itsA l, .own 31, smsA (segV m k l), .own 40] 191), (31, .row itE l 62 12), (40, .row intE [] 3 1)] := by
 refine FnO.introX (ts := [(0, mnA m), (1, iv k), (2, itsA l)]) (rv := [.tmp 6, .tmp 7]) (n := 37) (cs := []) (by kernel_rfl) Tryz.func133 rfl Tryz.ntmps133 rfl rfl (by simp) rfl rfl rfl rfl (fun g w d vs => ?_);apply yb;refine yH ?_;iterate 2 refine ya ?_
 apply yn;iterate 3 refine ya ?_
 refine yr (zaf m k l h0 h1 hl) ?_;refine y4 ?_;apply yd;apply yb;refine yh ?_;refine yk rfl ?_ ?_<;>intro hc1
 ·exact absurd hE hc1
 apply yf;apply yb;iterate 2 refine ya ?_
 refine yr (zcd m k) ?_;iterate 3 refine ya ?_
 refine yJ ?_;refine yi ?_;refine ye ?_;apply yd;refine X.drawQ [⟨0, 28, tmA (unT m k), []⟩, ⟨1, 29, iv k, []⟩, ⟨2, 30, itsA l, []⟩, ⟨4, 32, itsA l, []⟩, ⟨6, 34, smsA (segV m k l), []⟩] [(3, []), (5, [4, 3]), (7, [4, 3, 6, 5, 2, 1, 0]), (8, [4, 3, 6, 5, 2, 1, 0, 7]), (9, [7, 6, 4, 3, 2, 1, 0, 5, 8]), (10, [8, 7, 6, 5, 4, 3, 2, 1, 0, 9])] (fun j => match j with | 0 => ⟨[(1, iv k), (2, itsA l), (8, smsA (segV m k l)), (10, .ptr 10 0 0 0)], [(1000001, .hold vs []), (10, .box (tmE (unT m k)) 60)]⟩ | 1 => ⟨[(1, iv k), (2, itsA l), (8, smsA (segV m k l)), (10, .ptr 10 0 0 0), (31, .own 31)], [(1000001, .hold vs []), (10, .box (tmE (unT m k)) 60), (31, .row itE [] 62 12)]⟩ | 2 => ⟨[(1, iv k), (2, itsA l), (8, smsA (segV m k l)), (10, .ptr 10 0 0 0), (33, .own 31)], [(1000001, .hold vs []), (10, .box (tmE (unT m k)) 60), (31, .row itE l 62 12)]⟩ | 3 => ⟨[(1, iv k), (2, itsA l), (8, smsA (segV m k l)), (10, .ptr 10 0 0 0), (35, .agg [iv (unT m k).N, iv (unT m k).D, iv k, itsA l, .own 31, smsA (segV m k l), .nils])], [(1000001, .hold vs []), (10, .box (tmE (unT m k)) 60), (31, .row itE l 62 12)]⟩ | 4 => ⟨[(1, iv k), (2, itsA l), (8, smsA (segV m k l)), (10, .ptr 10 0 0 0), (36, .ptr 36 0 0 0)], [(1000001, .hold vs []), (36, .box [iv (unT m k).N, iv (unT m k).D, iv k, itsA l, .own 31, smsA (segV m k l), .nils] 191), (31, .row itE l 62 12)]⟩ | 5 => ⟨[(1, iv k), (2, itsA l), (8, smsA (segV m k l)), (10, .ptr 10 0 0 0), (6, .ptr 36 0 0 0)], [(1000001, .hold vs []), (36, .box [iv (unT m k).N, iv (unT m k).D, iv k, itsA l, .own 31, smsA (segV m k l), .nils] 191), (31, .row itE l 62 12)]⟩ | _ => ⟨[(1, iv k), (2, itsA l), (8, smsA (segV m k l)), (10, .ptr 10 0 0 0), (6, .ptr 36 0 0 0), (7, iv 0)], [(1000001, .hold vs []), (36, .box [iv (unT m k).N, iv (unT m k).D, iv k, itsA l, .own 31, smsA (segV m k l), .nils] 191), (31, .row itE l 62 12)]⟩) mo (by kernel_rfl) (zE (yl)) (fun j hj => ?_) (fun j c hc β hβ => ?_) ?_
 ·rcases j with _ | _ | _ | _ | _ | _ | _ | j
  ·exact yS
  ·exact yS
  ·exact yS
  ·exact yS
  ·exact yS
  ·exact yS
  ·exact yS
  ·exact absurd (show j + 7 <= 6 from hj) (by omega)
 ·rcases j with _ | _ | _ | _ | _ | _ | j
  ·obtain rfl : (3, []) = c := by injection hc
   refine yw rfl (yG (st0 := ⟨[(28, .ifb (β 0) (tmA (unT m k))), (29, .ifb (β 1) (iv k)), (30, .ifb (β 2) (itsA l)), (32, .ifb (β 4) (itsA l)), (34, .ifb (β 6) (smsA (segV m k l))), (1, iv k), (2, itsA l), (8, smsA (segV m k l)), (10, .ptr 10 0 0 0)], [(1000001, .hold vs []), (10, .box (tmE (unT m k)) 60)]⟩) (yE) ?_);refine yq (yD (yT (k := 31) (enc := itE) (l := []) sl24 ty62 ze62 (by decide) rfl rfl rfl rfl (by decide) (by decide) (fun _ => rfl) rfl) rfl rfl) (yE)
  ·obtain rfl : (5, [4, 3]) = c := by injection hc
   refine yw rfl (yG (st0 := ⟨[(28, .ifb (β 0) (tmA (unT m k))), (29, .ifb (β 1) (iv k)), (30, .ifb (β 2) (itsA l)), (32, itsA l), (34, .ifb (β 6) (smsA (segV m k l))), (1, iv k), (2, itsA l), (8, smsA (segV m k l)), (10, .ptr 10 0 0 0), (31, .own 31)], [(1000001, .hold vs []), (10, .box (tmE (unT m k)) 60), (31, .row itE [] 62 12)]⟩) (yE) ?_);refine yq (zcr (l := []) (l2 := l) rfl rfl rfl sl24 ti62 (by decide) (by decide) (fun _ => rfl) (fun _ => rfl) (by simp; omega) rfl) (yE)
  ·obtain rfl : (7, [4, 3, 6, 5, 2, 1, 0]) = c := by injection hc
   refine yw rfl (yG (st0 := ⟨[(28, tmA (unT m k)), (29, iv k), (30, itsA l), (32, itsA l), (34, smsA (segV m k l)), (1, iv k), (2, itsA l), (8, smsA (segV m k l)), (10, .ptr 10 0 0 0), (33, .own 31)], [(1000001, .hold vs []), (10, .box (tmE (unT m k)) 60), (31, .row itE l 62 12)]⟩) (yE) ?_);refine yq (yD (Pur.stepA yQ) rfl rfl) (yE)
  ·obtain rfl : (8, [4, 3, 6, 5, 2, 1, 0, 7]) = c := by injection hc
   refine yw rfl (yG (st0 := ⟨[(28, tmA (unT m k)), (29, iv k), (30, itsA l), (32, itsA l), (34, smsA (segV m k l)), (1, iv k), (2, itsA l), (8, smsA (segV m k l)), (10, .ptr 10 0 0 0), (35, .agg [iv (unT m k).N, iv (unT m k).D, iv k, itsA l, .own 31, smsA (segV m k l), .nils])], [(1000001, .hold vs []), (10, .box (tmE (unT m k)) 60), (31, .row itE l 62 12)]⟩) (yE) ?_);refine yq (yD (zen (k := 36) rfl rfl) rfl rfl) (yE)
  ·obtain rfl : (9, [7, 6, 4, 3, 2, 1, 0, 5, 8]) = c := by injection hc
   refine yw rfl (yG (st0 := ⟨[(28, tmA (unT m k)), (29, iv k), (30, itsA l), (32, itsA l), (34, smsA (segV m k l)), (1, iv k), (2, itsA l), (8, smsA (segV m k l)), (10, .ptr 10 0 0 0), (36, .ptr 36 0 0 0)], [(1000001, .hold vs []), (36, .box [iv (unT m k).N, iv (unT m k).D, iv k, itsA l, .own 31, smsA (segV m k l), .nils] 191), (31, .row itE l 62 12)]⟩) (yE) ?_);refine yq (yD (Pur.stepA yQ) rfl rfl) (yE)
  ·obtain rfl : (10, [8, 7, 6, 5, 4, 3, 2, 1, 0, 9]) = c := by injection hc
   refine yw rfl (yG (st0 := ⟨[(28, tmA (unT m k)), (29, iv k), (30, itsA l), (32, itsA l), (34, smsA (segV m k l)), (1, iv k), (2, itsA l), (8, smsA (segV m k l)), (10, .ptr 10 0 0 0), (6, .ptr 36 0 0 0)], [(1000001, .hold vs []), (36, .box [iv (unT m k).N, iv (unT m k).D, iv k, itsA l, .own 31, smsA (segV m k l), .nils] 191), (31, .row itE l 62 12)]⟩) (yE) ?_);refine yq (yD (Pur.stepA yQ) rfl rfl) (yE)
  ·exact absurd hc (by simp)
 refine X.ret ?_;refine zcC (zc7 intE 3 1 36 40 6 191 _ [iv (unT m k).N, iv (unT m k).D, iv k, itsA l, .own 31, smsA (segV m k l), .own 40] rfl rfl rfl rfl) ?_;refine zlC.mk [(6, .ptr 36 0 0 0), (7, iv 0)] [] (.inr rfl) (.many (by decide) (.cons (.tmp rfl (LeV.eq ?_)) (.cons (.tmp rfl (LeV.eq ?_)) .nil)));all_goals (rfl)
theorem zdu (m : Mn) (k : Int) (l : List Ite) (M : List Int) (h0 : -9223372036854775808 <= k) (h1 : k <= 9223372036854775807) (hl : l.length <= 1000000) (hM : M.length <= 1000000) (hE : ¬ segE m k l = 0) : Fn Tryz.prog 76 [mnA m, iv k, itsA l, yg M] (.tup [itsA [], iv (segE m k l)]) := by
 refine Fn.go Tryz.func76 Tryz.ntmps76 (fun g w d => ?_);apply yb;refine yH ?_;iterate 2 refine ya ?_
 apply yn;iterate 3 refine ya ?_
 refine yr (zde m k l h0 h1 hl hE) ?_;refine y4 ?_;apply yd;apply yb;refine yh ?_;refine yk rfl ?_ ?_<;>intro hc1
 ·apply yb;refine yp ?_;refine X.ret ?_;refine yu (yl (ts := [(8, itsA []), (9, iv (segE m k l))]) (hs := [])) ?_;refine yz ?_ ?_;all_goals (first | rfl | (simp_all; done))
 exact absurd hc1 hE
theorem zdv (m : Mn) (k : Int) (l : List Ite) (M : List Int) (h0 : -9223372036854775808 <= k) (h1 : k <= 9223372036854775807) (hl : l.length <= 1000000) (hM : M.length <= 1000000) (hE : segE m k l = 0) (hX : (!decide ((M.length : Int) = ((segV m k l).length : Int))) = true) : Fn Tryz.prog 76 [mnA m, iv k, itsA l, yg M] (.tup [itsA [], iv 2]) := by
 have hbl := zaz m k l;have hu := zgg (zcJ hE).1;have hSO := zdK hE;have hF := zfp hE;have hP := zb2 (zcJ hE).2.1;have hcut : ∀ x ∈ l, 0 <= x.Cut := fun x hx => (zfW (hP x hx)).1.2.2.1
 have hz0 : l = (stK (unT m k) (segV m k l) l M 0).1 := by unfold stK; rfl
 have hz1 : [] = M.take 0 := by simp
 refine Fn.go Tryz.func76 Tryz.ntmps76 (fun g w d => ?_);apply yb;refine yH ?_;iterate 2 refine ya ?_
 apply yn;iterate 3 refine ya ?_
 refine zap [(36, 2000000), (31, 2000001), (40, 2000002)] (zJ m k l h0 h1 hl hE) ?_;refine y4 ?_;apply yd;apply yb;refine yh ?_;refine yk rfl ?_ ?_<;>intro hc1
 ·exact absurd rfl hc1
 apply yf;apply yd;apply yb;iterate 3 refine ya ?_
 refine ya ?_ (hs := by exact yo rfl);refine yX ?_;refine yk rfl ?_ ?_<;>intro hc2
 ·apply yb;refine yh ?_;refine X.ret ?_;refine yu (yl (ts := [(8, itsA []), (9, iv 2)]) (hs := [])) ?_;refine yz ?_ ?_;all_goals (first | rfl | (simp_all; done))
 first | (exact absurd hX (by simp; omega)) | (exact absurd hX (by simp [hc2])) | (simp at hX; omega)
set_option maxHeartbeats 4000000 in
theorem zdw (m : Mn) (k : Int) (l : List Ite) (M : List Int) (h0 : -9223372036854775808 <= k) (h1 : k <= 9223372036854775807) (hl : l.length <= 1000000) (hM : M.length <= 1000000) (hE : segE m k l = 0) (hX : (!decide ((M.length : Int) = ((segV m k l).length : Int))) = false) (hN : ∀ s ∈ segV m k l, 0 <= s.Count.N) (hMS : M.length <= (segV m k l).length) (hok : okJ (unT m k) k (segV m k l) l M M.length = true) : Fn Tryz.prog 76 [mnA m, iv k, itsA l, yg M] (.tup [itsA (stK (unT m k) (segV m k l) l M M.length).1, iv 0]) := by
 have hbl := zaz m k l;have hu := zgg (zcJ hE).1;have hSO := zdK hE;have hF := zfp hE;have hP := zb2 (zcJ hE).2.1;have hcut : ∀ x ∈ l, 0 <= x.Cut := fun x hx => (zfW (hP x hx)).1.2.2.1
 have hz0 : l = (stK (unT m k) (segV m k l) l M 0).1 := by unfold stK; rfl
 have hz1 : [] = M.take 0 := by simp
 refine Fn.go Tryz.func76 Tryz.ntmps76 (fun g w d => ?_);apply yb;refine yH ?_;iterate 2 refine ya ?_
 apply yn;iterate 3 refine ya ?_
 refine zap [(36, 2000000), (31, 2000001), (40, 2000002)] (zJ m k l h0 h1 hl hE) ?_;refine y4 ?_;apply yd;apply yb;refine yh ?_;refine yk rfl ?_ ?_<;>intro hc1
 ·exact absurd rfl hc1
 apply yf;apply yd;apply yb;iterate 3 refine ya ?_
 refine ya ?_ (hs := by exact yo rfl);refine yX ?_;refine yk rfl ?_ ?_<;>intro hc2
 ·first | (exact absurd hX (by simp; omega)) | (exact absurd hX (by simp [hc2])) | (simp at hX; omega)
 apply yf;apply yd;apply yb;refine ye ?_;apply X.block
 refine y9 (ι := Nat) (fun (n : Nat) => [(3, yg M), (10, .ptr 2000000 0 0 0), (12, iv (n : Int))]) (fun (n : Nat) => [(2000000, .box [iv (unT m k).N, iv (unT m k).D, iv k, itsA l, .own 2000001, smsA (segV m k l), .own 2000002] 191), (2000001, .row itE ((stK (unT m k) (segV m k l) l M n).1) 62 12), (2000002, .row intE (M.take n) 3 1)]) (fun (n : Nat) => n <= M.length) (fun (n : Nat) => M.length - n) 0 (fun n hk => ?_) (h0 := by
  exact yx)
 apply yd;apply yb;refine yX ?_;refine yk rfl ?_ ?_<;>intro hc3
 ·obtain ⟨s, hs⟩ : ∃ s, (segV m k l)[n]? = some s := ⟨_, lgg (by omega)⟩;obtain ⟨c, hc⟩ : ∃ c, M[n]? = some c := ⟨_, lgg (by omega)⟩;have hc2 : M[(n : Int).toNat]? = some c := by simpa using hc
  have hsl := zbv (unT m k) (segV m k l) l M n;have hso := hSO.all s (List.mem_of_getElem? hs);have hst1 := (zj7 (u := unT m k) (l := l) hs hc).1;have hst2 := ze6 hc;have hsN := hN s (List.mem_of_getElem? hs);have hoj := zj6 (u := unT m k) (k := k) (l := l) hs hc;have htl : (M.take n).length = n := by rw [List.length_take]; omega
  have hs2 : (segV m k l)[(M.take n).length]? = some s := by rw [htl]; exact hs
  have hra : ∀ (hk : okJ (unT m k) k (segV m k l) l M n = true), rfA (unT m k) k (segV m k l) l (stK (unT m k) (segV m k l) l M n).1 (M.take n) (M.take n).length = alQ (unT m k) k (stK (unT m k) (segV m k l) l M n).1 (stK (unT m k) (segV m k l) l M n).2 s := fun hk => by
   rw [htl, zhz, ziX hcut hSO hF (by omega) hk]; unfold alK;rw [show (segV m k l).getD n default = s by rw [List.getD_eq_getElem?_getD, hs]; rfl]
  have hjn := zf8 hok (show n <= M.length by omega)
  have hmem : c ∈ alQ (unT m k) k (stK (unT m k) (segV m k l) l M n).1 (stK (unT m k) (segV m k l) l M n).2 s := by
   have h := zf8 hok (show n + 1 <= M.length by omega);rw [hoj] at h; simpa using (Bool.and_eq_true_iff.1 h).2
  apply yf;apply yd;apply X.block;apply yb;iterate 5 refine ya ?_
  refine zap [(2000000, 2000000), (2000001, 2000001), (2000002, 2000002), (2000012, 2000012)] (zC (unT m k) k l (stK (unT m k) (segV m k l) l M n).1 (segV m k l) (M.take n) s hs2 hso.b hl hsl (by omega) (by omega) (by omega) hsN c (by rw [hra hjn]; exact hmem) (zfX hso.ft hmem)) ?_;refine ze (st' := ⟨[(3, yg M), (10, .ptr 2000000 0 0 0), (12, iv (n : Int)), (42, .bool true)], [(2000000, .box [iv (unT m k).N, iv (unT m k).D, iv k, itsA l, .own 2000001, smsA (segV m k l), .own 2000012] 191), (2000001, .row itE ((stK (unT m k) (segV m k l) l M (n + 1)).1) 62 12), (2000012, .row intE (M.take (n + 1)) 3 1)]⟩) yx ?_;refine ze (st' := ⟨[(3, yg M), (10, .ptr 2000000 0 0 0), (12, iv (n : Int)), (42, .bool true)], [(2000000, .box [iv (unT m k).N, iv (unT m k).D, iv k, itsA l, .own 2000001, smsA (segV m k l), .own 2000002] 191), (2000001, .row itE ((stK (unT m k) (segV m k l) l M (n + 1)).1) 62 12), (2000002, .row intE (M.take (n + 1)) 3 1)]⟩) ((Imp.mv 2000012 2000002 rfl rfl).trans yl) ?_;refine ye ?_;refine yk rfl ?_ ?_<;>intro hc4
  ·first | (cases hc4; done) | (exact absurd hc4 (by decide))
  apply yf;apply yc;refine yp ?_;refine yL (n + 1) (hI := yx)
 ·have hn : n = M.length := by omega
  subst hn;apply X.exit;apply yb;refine ya ?_;refine ya ?_ (hs := by exact yo rfl);refine yX ?_;refine X.ret ?_;refine yu (Imp.freeze (k := 2000001) rfl) ?_;refine yz ?_ ?_;all_goals (rfl)
set_option maxHeartbeats 4000000 in
theorem zdx (m : Mn) (k : Int) (l : List Ite) (M : List Int) (h0 : -9223372036854775808 <= k) (h1 : k <= 9223372036854775807) (hl : l.length <= 1000000) (hM : M.length <= 1000000) (hE : segE m k l = 0) (hX : (!decide ((M.length : Int) = ((segV m k l).length : Int))) = false) (hN : ∀ s ∈ segV m k l, 0 <= s.Count.N) (hMS : M.length <= (segV m k l).length) (hok : okJ (unT m k) k (segV m k l) l M M.length = false) : Fn Tryz.prog 76 [mnA m, iv k, itsA l, yg M] (.tup [itsA [], iv 2]) := by
 have hbl := zaz m k l;have hu := zgg (zcJ hE).1;have hSO := zdK hE;have hF := zfp hE;have hP := zb2 (zcJ hE).2.1;have hcut : ∀ x ∈ l, 0 <= x.Cut := fun x hx => (zfW (hP x hx)).1.2.2.1
 have hz0 : l = (stK (unT m k) (segV m k l) l M 0).1 := by unfold stK; rfl
 have hz1 : [] = M.take 0 := by simp
 refine Fn.go Tryz.func76 Tryz.ntmps76 (fun g w d => ?_);apply yb;refine yH ?_;iterate 2 refine ya ?_
 apply yn;iterate 3 refine ya ?_
 refine zap [(36, 2000000), (31, 2000001), (40, 2000002)] (zJ m k l h0 h1 hl hE) ?_;refine y4 ?_;apply yd;apply yb;refine yh ?_;refine yk rfl ?_ ?_<;>intro hc1
 ·exact absurd rfl hc1
 apply yf;apply yd;apply yb;iterate 3 refine ya ?_
 refine ya ?_ (hs := by exact yo rfl);refine yX ?_;refine yk rfl ?_ ?_<;>intro hc2
 ·first | (exact absurd hX (by simp; omega)) | (exact absurd hX (by simp [hc2])) | (simp at hX; omega)
 apply yf;apply yd;apply yb;refine ye ?_;apply X.block
 refine y9 (ι := Nat) (fun (n : Nat) => [(3, yg M), (10, .ptr 2000000 0 0 0), (12, iv (n : Int))]) (fun (n : Nat) => [(2000000, .box [iv (unT m k).N, iv (unT m k).D, iv k, itsA l, .own 2000001, smsA (segV m k l), .own 2000002] 191), (2000001, .row itE ((stK (unT m k) (segV m k l) l M n).1) 62 12), (2000002, .row intE (M.take n) 3 1)]) (fun (n : Nat) => n <= M.length /\ okJ (unT m k) k (segV m k l) l M n = true) (fun (n : Nat) => M.length - n) 0 (fun n hk => ?_) (hJ := by
  exact ⟨by omega, by unfold okJ; rfl⟩) (h0 := by
  exact yx)
 obtain ⟨hk1, hk2⟩ := hk;apply yd;apply yb;refine yX ?_;refine yk rfl ?_ ?_<;>intro hc3
 ·obtain ⟨s, hs⟩ : ∃ s, (segV m k l)[n]? = some s := ⟨_, lgg (by omega)⟩;obtain ⟨c, hc⟩ : ∃ c, M[n]? = some c := ⟨_, lgg (by omega)⟩;have hc2 : M[(n : Int).toNat]? = some c := by simpa using hc
  have hsl := zbv (unT m k) (segV m k l) l M n;have hso := hSO.all s (List.mem_of_getElem? hs);have hst1 := (zj7 (u := unT m k) (l := l) hs hc).1;have hst2 := ze6 hc;have hsN := hN s (List.mem_of_getElem? hs);have hoj := zj6 (u := unT m k) (k := k) (l := l) hs hc;have htl : (M.take n).length = n := by rw [List.length_take]; omega
  have hs2 : (segV m k l)[(M.take n).length]? = some s := by rw [htl]; exact hs
  have hra : ∀ (hk : okJ (unT m k) k (segV m k l) l M n = true), rfA (unT m k) k (segV m k l) l (stK (unT m k) (segV m k l) l M n).1 (M.take n) (M.take n).length = alQ (unT m k) k (stK (unT m k) (segV m k l) l M n).1 (stK (unT m k) (segV m k l) l M n).2 s := fun hk => by
   rw [htl, zhz, ziX hcut hSO hF (by omega) hk]; unfold alK;rw [show (segV m k l).getD n default = s by rw [List.getD_eq_getElem?_getD, hs]; rfl]
  apply yf;apply yd;apply X.block;apply yd;by_cases hmem : c ∈ alQ (unT m k) k (stK (unT m k) (segV m k l) l M n).1 (stK (unT m k) (segV m k l) l M n).2 s
  ·apply yc;(iterate 5 refine ya ?_);refine zap [(2000000, 2000000), (2000001, 2000001), (2000002, 2000002), (2000012, 2000012)] (zC (unT m k) k l (stK (unT m k) (segV m k l) l M n).1 (segV m k l) (M.take n) s hs2 hso.b hl hsl (by omega) (by omega) (by omega) hsN c (by rw [hra hk2]; exact hmem) (zfX hso.ft hmem)) ?_;refine ze (st' := ⟨[(3, yg M), (10, .ptr 2000000 0 0 0), (12, iv (n : Int)), (42, .bool true)], [(2000000, .box [iv (unT m k).N, iv (unT m k).D, iv k, itsA l, .own 2000001, smsA (segV m k l), .own 2000012] 191), (2000001, .row itE ((stK (unT m k) (segV m k l) l M (n + 1)).1) 62 12), (2000012, .row intE (M.take (n + 1)) 3 1)]⟩) yx ?_;refine ze (st' := ⟨[(3, yg M), (10, .ptr 2000000 0 0 0), (12, iv (n : Int)), (42, .bool true)], [(2000000, .box [iv (unT m k).N, iv (unT m k).D, iv k, itsA l, .own 2000001, smsA (segV m k l), .own 2000002] 191), (2000001, .row itE ((stK (unT m k) (segV m k l) l M (n + 1)).1) 62 12), (2000002, .row intE (M.take (n + 1)) 3 1)]⟩) ((Imp.mv 2000012 2000002 rfl rfl).trans yl) ?_;refine ye ?_;refine yk rfl ?_ ?_<;>intro hc4
   ·first | (cases hc4; done) | (exact absurd hc4 (by decide))
   apply yf;apply yc;refine yp ?_
   refine yL (n + 1) (hJ := by
    exact ⟨by omega, by rw [hoj, hk2, decide_eq_true hmem]; rfl⟩) (hI := yx)
  ·apply yc;(iterate 5 refine ya ?_);refine zap [(2000000, 2000000), (2000001, 2000001), (2000002, 2000002)] (zbE (unT m k) k l (stK (unT m k) (segV m k l) l M n).1 (segV m k l) (M.take n) s hs2 hso.b hl hsl (by omega) (by omega) (by omega) hsN c (by rw [hra hk2]; exact hmem)) ?_;refine ye ?_;refine yk rfl ?_ ?_<;>intro hc5
   ·apply yb;refine yh ?_;refine X.ret ?_;refine yu (yl (ts := [(8, itsA []), (9, iv 2)]) (hs := [])) ?_;refine yz ?_ ?_;all_goals (first | rfl | (simp_all; done))
   first | (cases hc5; done) | (exact absurd hc5 (by decide))
 ·have hn : n = M.length := by omega
  subst hn;exact absurd hk2 (by rw [hok]; decide)
end Go.Rse
namespace Go.Rse
open Go Go.Proofs
attribute [local irreducible] Pur yK yM Ex X Fn Imp LeV LeB FnO It yW FnW FnOW
theorem zoU (n d : Int) : 0 <= (tmkT n d).N := by
 unfold tmkT;split
 ·rename_i h;unfold tmkE at h;split at h
  ·cases h
  ·refine Int.ediv_nonneg (by omega) ?_;unfold gI; omega
 ·exact Int.le_refl _
theorem zrf (u : Tm) (l : List Ite) (s : Sgm) : 0 <= (cnV u l s).N := by
 unfold cnV;split
 ·unfold divV;split
  ·split
   ·exact Int.le_refl _
   ·unfold tmsV;split
    ·exact Int.le_refl _
    ·exact zoU _ _
  ·exact Int.le_refl _
 ·exact Int.le_refl _
theorem zd9 (m : Mn) (k : Int) (l : List Ite) : ∀ s ∈ segV m k l, 0 <= s.Count.N := by
 unfold segV;split
 ·intro s hs;obtain ⟨t, ht, rfl⟩ := List.mem_map.1 hs;exact zrf _ _ _
 ·intro s hs; cases hs
section
variable {m : Mn} {k : Int} {l : List Ite} {M : List Int}
theorem zsM (h : ¬ segE m k l = 0) : apE m k l M = segE m k l /\ apV m k l M = [] := by
 have : apE m k l M = segE m k l := by unfold apE; rw [if_neg h]
 refine ⟨this, ?_⟩; unfold apV; rw [this, if_neg h]
theorem zoV (h : segE m k l = 0) (h2 : ¬ (segV m k l).length = M.length \/ okJ (unT m k) k (segV m k l) l M M.length = false) : apE m k l M = 2 /\ apV m k l M = [] := by
 have : apE m k l M = 2 := by unfold apE; rw [if_pos h, if_pos h2]
 refine ⟨this, ?_⟩; unfold apV; rw [this, if_neg (by decide)]
theorem zsN (h : segE m k l = 0) (h2 : ¬ (¬ (segV m k l).length = M.length \/ okJ (unT m k) k (segV m k l) l M M.length = false)) : apE m k l M = 0 /\ apV m k l M = (stK (unT m k) (segV m k l) l M M.length).1 := by
 have : apE m k l M = 0 := by unfold apE; rw [if_pos h, if_neg h2]
 refine ⟨this, ?_⟩; unfold apV; rw [if_pos this]
end
theorem zhT (m : Mn) (k : Int) (l : List Ite) (M : List Int) (h0 : -9223372036854775808 <= k) (h1 : k <= 9223372036854775807) (hl : l.length <= 1000000) (hM : M.length <= 4000000) : Fn Tryz.prog 36 [mnA m, iv k, itsA l, yg M] (.tup [itsA (apV m k l M), iv (apE m k l M)]) := by
 by_cases hE : segE m k l = 0
 ·by_cases hX : (segV m k l).length = M.length
  ·by_cases hO : okJ (unT m k) k (segV m k l) l M M.length = false
   ·obtain ⟨e1, e2⟩ := zoV hE (.inr hO); rw [e1, e2];exact zgz m k l M h0 h1 hl hM hE (by simp; omega) (hok := hO) (hN := zd9 m k l) (hMS := by omega)
   ·obtain ⟨e1, e2⟩ := zsN hE (fun h => h.elim (fun g => g hX) hO); rw [e1, e2];exact zgA m k l M h0 h1 hl hM hE (by simp; omega) (hok := by simpa using hO) (hN := zd9 m k l) (hMS := by omega)
  ·obtain ⟨e1, e2⟩ := zoV hE (.inl hX); rw [e1, e2];exact zgy m k l M h0 h1 hl hM hE (by simp; omega)
 ·obtain ⟨e1, e2⟩ := zsM (M := M) hE; rw [e1, e2];exact zgx m k l M h0 h1 hl hM hE
theorem zeB (m : Mn) (k : Int) (l : List Ite) (M : List Int) (h0 : -9223372036854775808 <= k) (h1 : k <= 9223372036854775807) (hl : l.length <= 1000000) (hM : M.length <= 1000000) : Fn Tryz.prog 76 [mnA m, iv k, itsA l, yg M] (.tup [itsA (apV m k l M), iv (apE m k l M)]) := by
 by_cases hE : segE m k l = 0
 ·by_cases hX : (segV m k l).length = M.length
  ·by_cases hO : okJ (unT m k) k (segV m k l) l M M.length = false
   ·obtain ⟨e1, e2⟩ := zoV hE (.inr hO); rw [e1, e2];exact zdx m k l M h0 h1 hl hM hE (by simp; omega) (hok := hO) (hN := zd9 m k l) (hMS := by omega)
   ·obtain ⟨e1, e2⟩ := zsN hE (fun h => h.elim (fun g => g hX) hO); rw [e1, e2];exact zdw m k l M h0 h1 hl hM hE (by simp; omega) (hok := by simpa using hO) (hN := zd9 m k l) (hMS := by omega)
  ·obtain ⟨e1, e2⟩ := zoV hE (.inl hX); rw [e1, e2];exact zdv m k l M h0 h1 hl hM hE (by simp; omega)
 ·obtain ⟨e1, e2⟩ := zsM (M := M) hE; rw [e1, e2];exact zdu m k l M h0 h1 hl hM hE
end Go.Rse
namespace Go.Rse
open Go Go.Proofs
attribute [local irreducible] Pur yK yM Ex X Fn Imp LeV LeB FnO It yW FnW FnOW
attribute [local irreducible] stK okJ alK alQ chN chL segV segE unT rfA
set_option maxHeartbeats 2000000 in
theorem zfH (m : Mn) (k : Int) (l : List Ite) (M : List Int) (h0 : -9223372036854775808 <= k) (h1 : k <= 9223372036854775807) (hl : l.length <= 1000000) (hM : M.length <= 4000000) (hE : segE m k l = 0) (hX : (decide (((segV m k l).length : Int) <= (M.length : Int))) = false) (hok : okJ (unT m k) k (segV m k l) l M M.length = true) (hN : ∀ s ∈ segV m k l, 0 <= s.Count.N) (hMS : M.length <= (segV m k l).length) : FnO Tryz.prog 64 [mnA m, iv k, itsA l, yg M] [] [] (.tup [.own 42, iv 0]) [(42, .row intE (alK (unT m k) k (segV m k l) l M M.length) 3 1)] := by
 have hbl := zaz m k l;have hu := zgg (zcJ hE).1;have hSO := zdK hE;obtain ⟨s, hs⟩ : ∃ s, (segV m k l)[M.length]? = some s := ⟨_, lgg (by simp at hX; omega)⟩;have hs2 : (segV m k l)[(M.length : Int).toNat]? = some s := by simpa using hs
 have hso := hSO.all s (List.mem_of_getElem? hs);have hsb := zjf hso.b (zbv (unT m k) (segV m k l) l M M.length);have hsN := hN s (List.mem_of_getElem? hs);have hsl := zbv (unT m k) (segV m k l) l M M.length;have hae : alQ (unT m k) k (stK (unT m k) (segV m k l) l M M.length).1 (stK (unT m k) (segV m k l) l M M.length).2 s = alK (unT m k) k (segV m k l) l M M.length := by unfold alK; rw [show (segV m k l).getD M.length default = s by rw [List.getD_eq_getElem?_getD, hs]; rfl]
 refine FnO.introX (ts := [(0, mnA m), (1, iv k), (2, itsA l), (3, yg M)]) (rv := [.tmp 8, .tmp 9]) (n := 43) (cs := []) (by kernel_rfl) Tryz.func64 rfl Tryz.ntmps64 rfl rfl (by simp) rfl rfl rfl rfl (fun g w d vs => ?_);apply yb;refine yH ?_;iterate 2 refine ya ?_
 apply yn;iterate 3 refine ya ?_
 refine zap [(36, 2000000), (30, 2000001), (34, 2000002)] (zaE m k l h0 h1 hl hE) ?_;iterate 6 refine ya ?_
 refine ye ?_;apply yd;apply yb;refine yh ?_;refine yk rfl ?_ ?_<;>intro hc1
 ·exact absurd rfl hc1
 apply yf;iterate 2 apply yd
 have hg5 : ((decide (((segV m k l).length : Int) <= (M.length : Int))) == false) = true := by rw [hX]; rfl
 ·apply yc;iterate 6 refine ya ?_
  iterate 3 refine zS ?_
  refine zae rfl rfl hg5 ?_;refine zap [(2000000, 2000000), (2000001, 2000001), (2000002, 2000002)] (zbi (unT m k) k (segV m k l) l M hSO hN hMS hl (by omega) (by omega) (by omega) hok) ?_;refine zS ?_;refine ye ?_;refine yk rfl ?_ ?_<;>intro hc2
  ·first | (exact absurd hc2.2 (by decide)) | (cases hc2; done) | (exact absurd hc2 (by simp [hX])) | (simp [hX] at hc2; done) | (rcases hc2 with h | h <;> first | (cases h; done) | (exact absurd h (by simpa using hX)) | (simp [hX] at h; done) | (exact absurd h (by decide)))
  apply yf;apply yb;iterate 6 refine ya ?_
  refine Ex.stepA (zc8 (ι := Nat) (stF := fun b => ⟨[(36, .ept (fun _ : Unit => [.sl itE (stK (unT m k) (segV m k l) l M M.length).1, iv k, iv (unT m k).N, iv (unT m k).D, .val (.map (some b))]) () 0), (41, smA s)], []⟩) 42 (fun g a w hr => znq (k := 2000002) rfl (fun b => (Imp.freeze (k := 2000001) rfl).trans ((y8 (k := 2000000) rfl rfl).trans yl)) (fun _ => rfl) (fun _ => rfl) hr) (fun b => zaK (stK (unT m k) (segV m k l) l M M.length).1 k (unT m k) b (stK (unT m k) (segV m k l) l M M.length).2 s hsb (by omega) (by omega) (by omega) hsN)) rfl rfl ?_;refine yh ?_;refine X.ret ?_;refine zcC (st' := ⟨[(8, .own 42), (9, iv 0)], [(1000001, .hold vs []), (42, .row intE (alK (unT m k) k (segV m k l) l M M.length) 3 1)]⟩) (by first | exact yl | exact yx) ?_;refine zlC.mk [(8, .own 42), (9, iv 0)] [] (.inr rfl) (.many (by decide) (.cons (.tmp rfl (LeV.eq ?_)) (.cons (.tmp rfl (LeV.eq ?_)) .nil)));all_goals (rfl)
set_option maxHeartbeats 4000000 in
theorem zcQ (m : Mn) (k : Int) (l : List Ite) (M : List Int) (h0 : -9223372036854775808 <= k) (h1 : k <= 9223372036854775807) (hl : l.length <= 1000000) (hM : M.length <= 1000000) (hE : segE m k l = 0) (hX : (decide (((segV m k l).length : Int) <= (M.length : Int))) = false) (hN : ∀ s ∈ segV m k l, 0 <= s.Count.N) (hMS : M.length <= (segV m k l).length) (hok : okJ (unT m k) k (segV m k l) l M M.length = true) : FnO Tryz.prog 67 [mnA m, iv k, itsA l, yg M] [] [] (.tup [.own 45, iv 0]) [(45, .row intE (alK (unT m k) k (segV m k l) l M M.length) 3 1)] := by
 have hbl := zaz m k l;have hu := zgg (zcJ hE).1;have hSO := zdK hE;have hF := zfp hE;have hP := zb2 (zcJ hE).2.1;have hcut : ∀ x ∈ l, 0 <= x.Cut := fun x hx => (zfW (hP x hx)).1.2.2.1
 have hz0 : l = (stK (unT m k) (segV m k l) l M 0).1 := by unfold stK; rfl
 have hz1 : [] = M.take 0 := by simp
 refine FnO.introX (ts := [(0, mnA m), (1, iv k), (2, itsA l), (3, yg M)]) (rv := [.tmp 8, .tmp 9]) (n := 46) (cs := []) (by kernel_rfl) Tryz.func67 rfl Tryz.ntmps67 rfl rfl (by simp) rfl rfl rfl rfl (fun g w d vs => ?_);apply yb;refine yH ?_;iterate 2 refine ya ?_
 apply yn;iterate 3 refine ya ?_
 refine zap [(36, 2000000), (31, 2000001), (40, 2000002)] (zJ m k l h0 h1 hl hE) ?_;refine y4 ?_;apply yd;apply yb;refine yh ?_;refine yk rfl ?_ ?_<;>intro hc1
 ·exact absurd rfl hc1
 apply yf;apply yd;apply yb;iterate 3 refine ya ?_
 refine ya ?_ (hs := by exact yo rfl);refine yX ?_;refine yk rfl ?_ ?_<;>intro hc2
 ·first | (exact absurd hX (by simp; omega)) | (exact absurd hX (by simp [hc2])) | (simp at hX; omega)
 apply yf;apply yd;apply yb;refine ye ?_;apply X.block
 refine y9 (ι := Nat) (fun (n : Nat) => [(3, yg M), (10, .ptr 2000000 0 0 0), (12, iv (n : Int))]) (fun (n : Nat) => [(1000001, .hold vs []), (2000000, .box [iv (unT m k).N, iv (unT m k).D, iv k, itsA l, .own 2000001, smsA (segV m k l), .own 2000002] 191), (2000001, .row itE ((stK (unT m k) (segV m k l) l M n).1) 62 12), (2000002, .row intE (M.take n) 3 1)]) (fun (n : Nat) => n <= M.length) (fun (n : Nat) => M.length - n) 0 (fun n hk => ?_) (h0 := by
  exact yx)
 apply yd;apply yb;refine yX ?_;refine yk rfl ?_ ?_<;>intro hc3
 ·obtain ⟨s, hs⟩ : ∃ s, (segV m k l)[n]? = some s := ⟨_, lgg (by omega)⟩;obtain ⟨c, hc⟩ : ∃ c, M[n]? = some c := ⟨_, lgg (by omega)⟩;have hc2 : M[(n : Int).toNat]? = some c := by simpa using hc
  have hsl := zbv (unT m k) (segV m k l) l M n;have hso := hSO.all s (List.mem_of_getElem? hs);have hst1 := (zj7 (u := unT m k) (l := l) hs hc).1;have hst2 := ze6 hc;have hsN := hN s (List.mem_of_getElem? hs);have hoj := zj6 (u := unT m k) (k := k) (l := l) hs hc;have htl : (M.take n).length = n := by rw [List.length_take]; omega
  have hs2 : (segV m k l)[(M.take n).length]? = some s := by rw [htl]; exact hs
  have hra : ∀ (hk : okJ (unT m k) k (segV m k l) l M n = true), rfA (unT m k) k (segV m k l) l (stK (unT m k) (segV m k l) l M n).1 (M.take n) (M.take n).length = alQ (unT m k) k (stK (unT m k) (segV m k l) l M n).1 (stK (unT m k) (segV m k l) l M n).2 s := fun hk => by
   rw [htl, zhz, ziX hcut hSO hF (by omega) hk]; unfold alK;rw [show (segV m k l).getD n default = s by rw [List.getD_eq_getElem?_getD, hs]; rfl]
  have hjn := zf8 hok (show n <= M.length by omega)
  have hmem : c ∈ alQ (unT m k) k (stK (unT m k) (segV m k l) l M n).1 (stK (unT m k) (segV m k l) l M n).2 s := by
   have h := zf8 hok (show n + 1 <= M.length by omega);rw [hoj] at h; simpa using (Bool.and_eq_true_iff.1 h).2
  apply yf;apply yd;apply X.block;apply yb;iterate 5 refine ya ?_
  refine zap [(2000000, 2000000), (2000001, 2000001), (2000002, 2000002), (2000012, 2000012)] (zC (unT m k) k l (stK (unT m k) (segV m k l) l M n).1 (segV m k l) (M.take n) s hs2 hso.b hl hsl (by omega) (by omega) (by omega) hsN c (by rw [hra hjn]; exact hmem) (zfX hso.ft hmem)) ?_;refine ze (st' := ⟨[(3, yg M), (10, .ptr 2000000 0 0 0), (12, iv (n : Int)), (42, .bool true)], [(1000001, .hold vs []), (2000000, .box [iv (unT m k).N, iv (unT m k).D, iv k, itsA l, .own 2000001, smsA (segV m k l), .own 2000012] 191), (2000001, .row itE ((stK (unT m k) (segV m k l) l M (n + 1)).1) 62 12), (2000012, .row intE (M.take (n + 1)) 3 1)]⟩) yx ?_;refine ze (st' := ⟨[(3, yg M), (10, .ptr 2000000 0 0 0), (12, iv (n : Int)), (42, .bool true)], [(1000001, .hold vs []), (2000000, .box [iv (unT m k).N, iv (unT m k).D, iv k, itsA l, .own 2000001, smsA (segV m k l), .own 2000002] 191), (2000001, .row itE ((stK (unT m k) (segV m k l) l M (n + 1)).1) 62 12), (2000002, .row intE (M.take (n + 1)) 3 1)]⟩) ((Imp.mv 2000012 2000002 rfl rfl).trans yl) ?_;refine ye ?_;refine yk rfl ?_ ?_<;>intro hc4
  ·first | (cases hc4; done) | (exact absurd hc4 (by decide))
  apply yf;apply yc;refine yp ?_;refine yL (n + 1) (hI := yx)
 ·have hn : n = M.length := by omega
  subst hn;obtain ⟨s, hs⟩ : ∃ s, (segV m k l)[M.length]? = some s := ⟨_, lgg (by simp at hX; omega)⟩;have hso := hSO.all s (List.mem_of_getElem? hs);have hsN := hN s (List.mem_of_getElem? hs);have hsl := zbv (unT m k) (segV m k l) l M M.length;have hTk : M.take M.length = M := List.take_length;have hae : rfA (unT m k) k (segV m k l) l (stK (unT m k) (segV m k l) l M M.length).1 M M.length = alK (unT m k) k (segV m k l) l M M.length := ziX hcut hSO hF (by simp at hX; omega) hok;apply X.exit;apply yb;refine ya ?_;refine ze (st' := ⟨[(44, .ptr 2000000 0 0 0)], [(1000001, .hold vs []), (2000000, .box [iv (unT m k).N, iv (unT m k).D, iv k, itsA l, .own 2000001, smsA (segV m k l), .own 2000002] 191), (2000001, .row itE ((stK (unT m k) (segV m k l) l M M.length).1) 62 12), (2000002, .row intE (M) 3 1)]⟩) yx ?_;refine Ex.stepA (zc8 (ι := Unit) (stF := fun _ => ⟨[(44, .ept (fun _ : Unit => [iv (unT m k).N, iv (unT m k).D, iv k, itsA l, itsA (stK (unT m k) (segV m k l) l M M.length).1, smsA (segV m k l), yg M]) () 0)], []⟩) 45 (fun g a w hr => zlD ((Imp.freeze (k := 2000001) rfl).trans ((Imp.freeze (k := 2000002) rfl).trans ((y8 (k := 2000000) rfl rfl).trans yl))) hr) (fun _ => zI (unT m k) k l (stK (unT m k) (segV m k l) l M M.length).1 (segV m k l) M s hs hso.b hl hsl (by omega) (by omega) (by omega) hsN)) rfl rfl ?_;refine yh ?_;refine X.ret ?_;refine zcC (st' := ⟨[(8, .own 45), (9, iv 0)], [(1000001, .hold vs []), (45, .row intE (alK (unT m k) k (segV m k l) l M M.length) 3 1)]⟩) (by first | exact yl | exact yx) ?_;refine zlC.mk [(8, .own 45), (9, iv 0)] [] (.inr rfl) (.many (by decide) (.cons (.tmp rfl (LeV.eq ?_)) (.cons (.tmp rfl (LeV.eq ?_)) .nil)));all_goals (rfl)
end Go.Rse
