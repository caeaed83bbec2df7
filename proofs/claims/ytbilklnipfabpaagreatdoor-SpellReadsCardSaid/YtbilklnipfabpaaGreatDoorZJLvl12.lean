/-
  Walks: choices made, one after the other; Allowed and Apply.
-/
import Derived.Test.YtbilklnipfabpaaGreatDoorZLvl11
import Derived.Test.YtbilklnipfabpaaGreatDoorZJLvl5
set_option linter.unusedSimpArgs false
set_option linter.unusedVariables false
namespace Go.Rse
open Go Go.Proofs
attribute [local irreducible] Pur yD yE Ex X Fn Imp LeV LeB FnO It yH FnW FnOW
theorem zmS {u : Tm} {k : Int} {S : List Sgm} {l : List Ite} {M : List Int} {n : Nat} : ∀ {n' : Nat}, okJ u k S l M n' = true -> n <= n' -> okJ u k S l M n = true
 | 0, h, hn => by have : n = 0 := by omega
                  subst this; exact h
 | n' + 1, h, hn => by
  by_cases e : n = n' + 1
  ·subst e; exact h
  ·have h' : (okJ u k S l M n' && decide (M.getD n' 0 ∈ alK u k S l M n')) = true := h;simp only [Bool.and_eq_true] at h';exact zmS h'.1 (by omega)
theorem zp5 {u : Tm} {k : Int} {S : List Sgm} {l : List Ite} {M : List Int} {n : Nat} {s : Sgm} {c : Int} (hs : S[n]? = some s) (hc : M[n]? = some c) : okJ u k S l M (n + 1) = (okJ u k S l M n && decide (c ∈ alQ u k (stK u S l M n).1 (stK u S l M n).2 s)) := by
 have e1 : S.getD n default = s := by rw [List.getD_eq_getElem?_getD, hs]; rfl
 have e2 : M.getD n 0 = c := by rw [List.getD_eq_getElem?_getD, hc]; rfl
 show (okJ u k S l M n && decide (M.getD n 0 ∈ alK u k S l M n)) = _;unfold alK; rw [e1, e2]
theorem zp6 {u : Tm} {S : List Sgm} {l : List Ite} {M : List Int} {n : Nat} {s : Sgm} {c : Int} (hs : S[n]? = some s) (hc : M[n]? = some c) : chN u s c (stK u S l M n).1 = (stK u S l M (n + 1)).1 /\ chL s c (stK u S l M n).2 = (stK u S l M (n + 1)).2 := by
 have e1 : S.getD n default = s := by rw [List.getD_eq_getElem?_getD, hs]; rfl
 have e2 : M.getD n 0 = c := by rw [List.getD_eq_getElem?_getD, hc]; rfl
 rw [zhn, e1, e2]; exact ⟨rfl, rfl⟩
theorem zkJ (u : Tm) (k : Int) (l : List Ite) (L : List (Int × Bool)) (s : Sgm) : (alQ u k l L s).length <= 5 := by
 unfold alQ alR;simp only [List.length_append];have h : ∀ (p : Prop) [Decidable p] (x : Int), (if p then [x] else []).length <= 1 := fun p _ x => by split <;> simp
 have h1 := h (s.Count.N % 3 = 0 \/ s.Free = true) 0;have h2 := h (s.Count.N % 3 = 1 /\ s.Count.D = 1 /\ poQ u k l L s = true) 1;have h3 := h (s.Count.N % 3 = 1 /\ s.Free = false /\ anQ u k l s = true) 2;have h4 := h (s.Count.N % 3 = 2 /\ s.Free = false /\ poQ u k l L s = true /\ anQ u k l s = true) 3;have h5 := h (s.Count.N % 3 = 2 /\ s.Free = false /\ atQ u k l s = true) 4;omega
theorem zib {n n' : Nat} {s : Sgm} (h : SgB n s) (e : n' = n) : SgB n' s := e ▸ h
attribute [local irreducible] stK okJ alQ chN chL
set_option maxHeartbeats 4000000 in
theorem zaI (u : Tm) (k : Int) (S : List Sgm) (l : List Ite) (M : List Int) (hS : SgsOk k l S) (hN : ∀ s ∈ S, 0 <= s.Count.N) (hM : M.length <= S.length) (hl : l.length <= 1000000) (hSl : S.length <= 4000000) (k0 : -9223372036854775808 <= k) (k1 : k + 1 <= 9223372036854775807) (hok : okJ u k S l M M.length = true) : FnO Tryz.prog 102 [.ptr 2000000 0 0 0, smsA S, yh M] [(2000000, .box [.own 2000001, iv k, iv u.N, iv u.D, .mp 2000002] 169), (2000001, .row itE (l) 95 12), (2000002, .mpb (fun i : Int => .int .i64 i) AV.bool ([]))] [2000000, 2000001, 2000002] (.bool true) [(2000000, .box [.own 2000001, iv k, iv u.N, iv u.D, .mp 2000002] 169), (2000001, .row itE ((stK u S l M M.length).1) 95 12), (2000002, .mpb (fun i : Int => .int .i64 i) AV.bool ((stK u S l M M.length).2))] := by
 have h00 : (stK u S l M 0).1 = l := by unfold stK; rfl
 have h01 : (stK u S l M 0).2 = [] := by unfold stK; rfl
 have h02 := h00.symm;have h03 := h01.symm;refine FnO.introX (ts := [(0, .ptr 2000000 0 0 0), (1, smsA S), (2, yh M)]) (rv := [.tmp 6]) (n := 36) (cs := [.ptr 2000000 0 0 0, .own 2000001, .mp 2000002]) (by kernel_rfl) Tryz.func102 rfl Tryz.ntmps102 rfl rfl (by simp) rfl rfl rfl rfl (fun g w d vs => ?_);apply yb;refine ya ?_;apply yk;refine ya ?_;refine ya (hs := zhL rfl) ?_;refine yd ?_;apply ye;apply yb;refine yr ?_;apply X.block
 refine zw (ι := Nat) (fun (n : Nat) => [(0, .ptr 2000000 0 0 0), (1, smsA S), (7, .mth 145 2000000 0 0 0), (12, yh M), (13, iv M.length), (14, iv (n : Int))]) (fun (n : Nat) => [(1000001, .hold vs [.ptr 2000000 0 0 0, .own 2000001, .mp 2000002]), (2000000, .box [.own 2000001, iv k, iv u.N, iv u.D, .mp 2000002] 169), (2000001, .row itE ((stK u S l M n).1) 95 12), (2000002, .mpb (fun i : Int => .int .i64 i) AV.bool ((stK u S l M n).2))]) (fun (n : Nat) => n <= M.length) (fun (n : Nat) => M.length - n) 0 (fun n hk => ?_) (h0 := by
  exact za2 (by (repeat' (first | exact True.intro | (refine And.intro ⟨_, rfl, ?_⟩ ?_; (first | exact LeV.refl _ | exact LeV.any _ | exact LeB.refl _ | (refine LeV.eq ?_; simp; done) | (refine LeV.eq ?_; congr 1; omega) | (refine LeV.eq ?_; dsimp only; congr 1; omega) | (refine LeV.eq (congrArg (AV.int _) ?_); omega) | exact LeV.nils _ | exact LeB.row (by assumption) | (refine LeB.eq ?_; congr 1; omega) | (refine LeB.eq ?_; congr 1; simp only [cond_true, cond_false]; omega)))))) (by (repeat' (first | exact True.intro | (refine And.intro ⟨_, rfl, ?_⟩ ?_; (first | exact LeB.refl _ | exact LeB.row (by assumption) | exact LeB.eq (congrArg (fun z => Blk.mpb (fun i : Int => .int .i64 i) AV.bool z) h03) | exact LeB.eq (congrArg (fun z => Blk.mpb (fun i : Int => .int .i64 i) AV.bool z) hst2)))))))
 apply yb;refine yd ?_;apply ye;refine ym rfl ?_ ?_<;>intro hc1
 ·obtain ⟨s, hs⟩ : ∃ s, S[n]? = some s := ⟨_, lgg (by omega)⟩;have hs2 : S[(n : Int).toNat]? = some s := by simpa using hs
  obtain ⟨c, hc⟩ : ∃ c, M[n]? = some c := ⟨_, lgg (by omega)⟩;have hc2 : M[(n : Int).toNat]? = some c := by simpa using hc
  have hsl := zdn u S l M n;have hso := hS.all s (List.mem_of_getElem? hs);have hsb := zib hso.b hsl;have hst0 := zp6 (u := u) (l := l) hs hc;have hst1 := hst0.1;have hst2 := hst0.2;have hsN := hN s (List.mem_of_getElem? hs);have hal := zkJ u k (stK u S l M n).1 (stK u S l M n).2 s;have hoj := zp5 (u := u) (k := k) (l := l) hs hc
  have hmem : c ∈ alQ u k (stK u S l M n).1 (stK u S l M n).2 s := by
   have h := zmS hok (show n + 1 <= M.length by omega);rw [hoj] at h; simpa using (Bool.and_eq_true_iff.1 h).2
  apply yf;apply ye;apply X.block;apply yb;refine zv ?_;apply ye;apply yb;iterate 5 refine ya ?_
  refine Ex.stepA (zfN (ι := Nat) (stF := fun b => ⟨[(19, .ept (fun _ : Unit => [.sl itE (stK u S l M n).1, iv k, iv u.N, iv u.D, .val (.map (some b))]) () 0), (23, smA s)], []⟩) 24 (fun g a w hr => znM (k := 2000002) rfl (fun b => (Imp.freeze (k := 2000001) rfl).trans ((y3 (k := 2000000) rfl rfl).trans yi)) (fun _ => rfl) (fun _ => rfl) hr) (fun b => zal (stK u S l M n).1 k u b (stK u S l M n).2 s hsb (by omega) k0 k1 hsN)) rfl rfl ?_;refine zf (st' := ⟨[(0, .ptr 2000000 0 0 0), (1, smsA S), (7, .mth 145 2000000 0 0 0), (8, iv (n : Int)), (9, iv c), (12, yh M), (13, iv M.length), (14, iv (n : Int)), (24, yh (alQ u k (stK u S l M n).1 (stK u S l M n).2 s))], [(1000001, .hold vs [.ptr 2000000 0 0 0, .own 2000001, .mp 2000002]), (2000000, .box [.own 2000001, iv k, iv u.N, iv u.D, .mp 2000002] 169), (2000001, .row itE ((stK u S l M n).1) 95 12), (2000002, .mpb (fun i : Int => .int .i64 i) AV.bool ((stK u S l M n).2))]⟩) ((Imp.freeze (k := 24) rfl).trans yi) ?_;refine ya ?_;refine yq (zr (alQ u k (stK u S l M n).1 (stK u S l M n).2 s) c (by omega)) ?_;refine yd ?_;refine ym rfl ?_ ?_<;>intro hc2
  ·exact absurd hmem hc2
  apply yf;apply yc;iterate 6 refine ya ?_
  refine zaP (zqp [(2000000, 2000000), (2000001, 2000001), (2000002, 2000002)] (zbC (stK u S l M n).1 k u (stK u S l M n).2 s c hsb (zf7 hso.ft hmem) (by omega))) ?_;apply Ex.nil;apply yc;refine yg ?_;refine yY (n + 1) (hI := za2 (by (repeat' (first | exact True.intro | (refine And.intro ⟨_, rfl, ?_⟩ ?_; (first | exact LeV.refl _ | exact LeV.any _ | exact LeB.refl _ | (refine LeV.eq ?_; simp; done) | (refine LeV.eq ?_; congr 1; omega) | (refine LeV.eq ?_; dsimp only; congr 1; omega) | (refine LeV.eq (congrArg (AV.int _) ?_); omega) | exact LeV.nils _ | exact LeB.row (by assumption) | (refine LeB.eq ?_; congr 1; omega) | (refine LeB.eq ?_; congr 1; simp only [cond_true, cond_false]; omega)))))) (by (repeat' (first | exact True.intro | (refine And.intro ⟨_, rfl, ?_⟩ ?_; (first | exact LeB.refl _ | exact LeB.row (by assumption) | exact LeB.eq (congrArg (fun z => Blk.mpb (fun i : Int => .int .i64 i) AV.bool z) h03) | exact LeB.eq (congrArg (fun z => Blk.mpb (fun i : Int => .int .i64 i) AV.bool z) hst2)))))))
 ·have hn : n = M.length := by omega
  subst hn;apply X.exit;apply yb;refine yd ?_;refine X.ret ?_;refine zhJ.mk [(6, .bool true)] [] (.inr rfl) (.one (.tmp rfl (LeV.eq ?_)));all_goals (rfl)
set_option maxHeartbeats 4000000 in
theorem zaT (u : Tm) (k : Int) (S : List Sgm) (l : List Ite) (M : List Int) (hS : SgsOk k l S) (hN : ∀ s ∈ S, 0 <= s.Count.N) (hM : M.length <= S.length) (hl : l.length <= 1000000) (hSl : S.length <= 4000000) (k0 : -9223372036854775808 <= k) (k1 : k + 1 <= 9223372036854775807) (hok : okJ u k S l M M.length = false) : FnO Tryz.prog 102 [.ptr 2000000 0 0 0, smsA S, yh M] [(2000000, .box [.own 2000001, iv k, iv u.N, iv u.D, .mp 2000002] 169), (2000001, .row itE (l) 95 12), (2000002, .mpb (fun i : Int => .int .i64 i) AV.bool ([]))] [] (.bool false) [] := by
 have h00 : (stK u S l M 0).1 = l := by unfold stK; rfl
 have h01 : (stK u S l M 0).2 = [] := by unfold stK; rfl
 have h02 := h00.symm;have h03 := h01.symm;refine FnO.introX (ts := [(0, .ptr 2000000 0 0 0), (1, smsA S), (2, yh M)]) (rv := [.tmp 6]) (n := 36) (cs := []) (by kernel_rfl) Tryz.func102 rfl Tryz.ntmps102 rfl rfl (by simp) rfl rfl rfl rfl (fun g w d vs => ?_);apply yb;refine ya ?_;apply yk;refine ya ?_;refine ya (hs := zhL rfl) ?_;refine yd ?_;apply ye;apply yb;refine yr ?_;apply X.block
 refine zw (ι := Nat) (fun (n : Nat) => [(0, .ptr 2000000 0 0 0), (1, smsA S), (7, .mth 145 2000000 0 0 0), (12, yh M), (13, iv M.length), (14, iv (n : Int))]) (fun (n : Nat) => [(1000001, .hold vs []), (2000000, .box [.own 2000001, iv k, iv u.N, iv u.D, .mp 2000002] 169), (2000001, .row itE ((stK u S l M n).1) 95 12), (2000002, .mpb (fun i : Int => .int .i64 i) AV.bool ((stK u S l M n).2))]) (fun (n : Nat) => n <= M.length /\ okJ u k S l M n = true) (fun (n : Nat) => M.length - n) 0 (fun n hk => ?_) (hJ := by
  exact ⟨by omega, by unfold okJ; rfl⟩) (h0 := by
  exact za2 (by (repeat' (first | exact True.intro | (refine And.intro ⟨_, rfl, ?_⟩ ?_; (first | exact LeV.refl _ | exact LeV.any _ | exact LeB.refl _ | (refine LeV.eq ?_; simp; done) | (refine LeV.eq ?_; congr 1; omega) | (refine LeV.eq ?_; dsimp only; congr 1; omega) | (refine LeV.eq (congrArg (AV.int _) ?_); omega) | exact LeV.nils _ | exact LeB.row (by assumption) | (refine LeB.eq ?_; congr 1; omega) | (refine LeB.eq ?_; congr 1; simp only [cond_true, cond_false]; omega)))))) (by (repeat' (first | exact True.intro | (refine And.intro ⟨_, rfl, ?_⟩ ?_; (first | exact LeB.refl _ | exact LeB.row (by assumption) | exact LeB.eq (congrArg (fun z => Blk.mpb (fun i : Int => .int .i64 i) AV.bool z) h03) | exact LeB.eq (congrArg (fun z => Blk.mpb (fun i : Int => .int .i64 i) AV.bool z) hst2)))))))
 obtain ⟨hk1, hk2⟩ := hk;apply yb;refine yd ?_;apply ye;refine ym rfl ?_ ?_<;>intro hc1
 ·obtain ⟨s, hs⟩ : ∃ s, S[n]? = some s := ⟨_, lgg (by omega)⟩;have hs2 : S[(n : Int).toNat]? = some s := by simpa using hs
  obtain ⟨c, hc⟩ : ∃ c, M[n]? = some c := ⟨_, lgg (by omega)⟩;have hc2 : M[(n : Int).toNat]? = some c := by simpa using hc
  have hsl := zdn u S l M n;have hso := hS.all s (List.mem_of_getElem? hs);have hsb := zib hso.b hsl;have hst0 := zp6 (u := u) (l := l) hs hc;have hst1 := hst0.1;have hst2 := hst0.2;have hsN := hN s (List.mem_of_getElem? hs);have hal := zkJ u k (stK u S l M n).1 (stK u S l M n).2 s;have hoj := zp5 (u := u) (k := k) (l := l) hs hc;apply yf;apply ye;apply X.block;apply yb;refine zv ?_;apply ye;apply yb;iterate 5 refine ya ?_
  refine Ex.stepA (zfN (ι := Nat) (stF := fun b => ⟨[(19, .ept (fun _ : Unit => [.sl itE (stK u S l M n).1, iv k, iv u.N, iv u.D, .val (.map (some b))]) () 0), (23, smA s)], []⟩) 24 (fun g a w hr => znM (k := 2000002) rfl (fun b => (Imp.freeze (k := 2000001) rfl).trans ((y3 (k := 2000000) rfl rfl).trans yi)) (fun _ => rfl) (fun _ => rfl) hr) (fun b => zal (stK u S l M n).1 k u b (stK u S l M n).2 s hsb (by omega) k0 k1 hsN)) rfl rfl ?_;refine zf (st' := ⟨[(0, .ptr 2000000 0 0 0), (1, smsA S), (7, .mth 145 2000000 0 0 0), (8, iv (n : Int)), (9, iv c), (12, yh M), (13, iv M.length), (14, iv (n : Int)), (24, yh (alQ u k (stK u S l M n).1 (stK u S l M n).2 s))], [(1000001, .hold vs []), (2000000, .box [.own 2000001, iv k, iv u.N, iv u.D, .mp 2000002] 169), (2000001, .row itE ((stK u S l M n).1) 95 12), (2000002, .mpb (fun i : Int => .int .i64 i) AV.bool ((stK u S l M n).2))]⟩) ((Imp.freeze (k := 24) rfl).trans yi) ?_;refine ya ?_;refine yq (zr (alQ u k (stK u S l M n).1 (stK u S l M n).2 s) c (by omega)) ?_;refine yd ?_;refine ym rfl ?_ ?_<;>intro hc2
  ·apply yb;refine yd ?_;refine X.ret ?_;refine zhJ.mk [(6, .bool false)] [(2000000, .box [.own 2000001, iv k, iv u.N, iv u.D, .mp 2000002] 169), (2000001, .row itE ((stK u S l M n).1) 95 12), (2000002, .mpb (fun i : Int => .int .i64 i) AV.bool ((stK u S l M n).2))] (.inr rfl) (.one (.tmp rfl (LeV.eq ?_)));all_goals (rfl)
  have hmem : c ∈ alQ u k (stK u S l M n).1 (stK u S l M n).2 s := hc2;apply yf;apply yc;iterate 6 refine ya ?_
  refine zaP (zqp [(2000000, 2000000), (2000001, 2000001), (2000002, 2000002)] (zbC (stK u S l M n).1 k u (stK u S l M n).2 s c hsb (zf7 hso.ft hmem) (by omega))) ?_;apply Ex.nil;apply yc;refine yg ?_
  refine yY (n + 1) (hJ := by
   exact ⟨by omega, by rw [hoj, hk2, decide_eq_true hmem]; rfl⟩) (hI := za2 (by (repeat' (first | exact True.intro | (refine And.intro ⟨_, rfl, ?_⟩ ?_; (first | exact LeV.refl _ | exact LeV.any _ | exact LeB.refl _ | (refine LeV.eq ?_; simp; done) | (refine LeV.eq ?_; congr 1; omega) | (refine LeV.eq ?_; dsimp only; congr 1; omega) | (refine LeV.eq (congrArg (AV.int _) ?_); omega) | exact LeV.nils _ | exact LeB.row (by assumption) | (refine LeB.eq ?_; congr 1; omega) | (refine LeB.eq ?_; congr 1; simp only [cond_true, cond_false]; omega)))))) (by (repeat' (first | exact True.intro | (refine And.intro ⟨_, rfl, ?_⟩ ?_; (first | exact LeB.refl _ | exact LeB.row (by assumption) | exact LeB.eq (congrArg (fun z => Blk.mpb (fun i : Int => .int .i64 i) AV.bool z) h03) | exact LeB.eq (congrArg (fun z => Blk.mpb (fun i : Int => .int .i64 i) AV.bool z) hst2)))))))
 ·have hn : n = M.length := by omega
  subst hn;exact absurd hk2 (by rw [hok]; decide)
end Go.Rse
namespace Go.Rse
open Go Go.Proofs
attribute [local irreducible] Pur yD yE Ex X Fn Imp LeV LeB FnO It yH FnW FnOW
theorem zbs (m : Mn) (k : Int) (l : List Ite) : (segV m k l).length <= 2 * l.length + 2 := by
 unfold segV;split
 ·rw [List.length_map, zcR, zea]; have := zdm k l l.length; omega
 ·simp
attribute [local irreducible] stK okJ alQ chN chL segV segE alE alV apE apV unT
theorem zeb (m : Mn) (k : Int) (l : List Ite) (M : List Int) (h0 : -9223372036854775808 <= k) (h1 : k <= 9223372036854775807) (hl : l.length <= 1000000) (hM : M.length <= 4000000) (hE : ¬ segE m k l = 0) : Fn Tryz.prog 162 [mnA m, iv k, itsA l, yh M] (.tup [yh [], iv (segE m k l)]) := by
 refine Fn.go Tryz.func162 Tryz.ntmps162 (fun g w d => ?_);apply yb;refine yG ?_;iterate 2 refine ya ?_
 apply yk;iterate 3 refine ya ?_
 refine yq (zcg m k l h0 h1 hl hE) ?_;iterate 6 refine ya ?_
 refine yd ?_;apply ye;apply yb;refine yg ?_;refine ym rfl ?_ ?_<;>intro hc1
 ·apply yb;refine yr ?_;refine X.ret ?_;refine yo (yi (ts := [(8, yh []), (9, iv (segE m k l))]) (hs := [])) ?_;refine yy ?_ ?_;all_goals (first | rfl | (simp_all; done))
 exact absurd hc1 hE
theorem zec (m : Mn) (k : Int) (l : List Ite) (M : List Int) (h0 : -9223372036854775808 <= k) (h1 : k <= 9223372036854775807) (hl : l.length <= 1000000) (hM : M.length <= 4000000) (hE : segE m k l = 0) (hX : (decide (((segV m k l).length : Int) <= (M.length : Int))) = true) : Fn Tryz.prog 162 [mnA m, iv k, itsA l, yh M] (.tup [yh [], iv 2]) := by
 have hbl := zbs m k l;have hu := ze7 (ze8 hE).1;have hSO := zcl hE;refine Fn.go Tryz.func162 Tryz.ntmps162 (fun g w d => ?_);apply yb;refine yG ?_;iterate 2 refine ya ?_
 apply yk;iterate 3 refine ya ?_
 refine z8 [(36, 2000000), (30, 2000001), (34, 2000002)] (zA m k l h0 h1 hl hE) ?_;iterate 6 refine ya ?_
 refine yd ?_;apply ye;apply yb;refine yg ?_;refine ym rfl ?_ ?_<;>intro hc1
 ·exact absurd rfl hc1
 apply yf;iterate 2 apply ye
 have hg5 : ((decide (((segV m k l).length : Int) <= (M.length : Int))) == false) = false := by rw [hX]; rfl
 ·apply yc;iterate 6 refine ya ?_
  iterate 5 refine zaR ?_
  refine yd ?_;refine ym rfl ?_ ?_<;>intro hc2
  ·apply yb;refine yg ?_;refine X.ret ?_;refine yo (yi (ts := [(8, yh []), (9, iv 2)]) (hs := [])) ?_;refine yy ?_ ?_;all_goals (first | rfl | (simp_all; done))
  first | (exact absurd hc2.2 (by decide)) | (cases hc2; done) | (exact absurd hc2 (by simp [hX])) | (simp [hX] at hc2; done) | (rcases hc2 with h | h <;> first | (cases h; done) | (exact absurd h (by simpa using hX)) | (simp [hX] at h; done) | (exact absurd h (by decide)))
theorem zed (m : Mn) (k : Int) (l : List Ite) (M : List Int) (h0 : -9223372036854775808 <= k) (h1 : k <= 9223372036854775807) (hl : l.length <= 1000000) (hM : M.length <= 4000000) (hE : segE m k l = 0) (hX : (decide (((segV m k l).length : Int) <= (M.length : Int))) = false) (hok : okJ (unT m k) k (segV m k l) l M M.length = false) (hN : ∀ s ∈ segV m k l, 0 <= s.Count.N) (hMS : M.length <= (segV m k l).length) : Fn Tryz.prog 162 [mnA m, iv k, itsA l, yh M] (.tup [yh [], iv 2]) := by
 have hbl := zbs m k l;have hu := ze7 (ze8 hE).1;have hSO := zcl hE;refine Fn.go Tryz.func162 Tryz.ntmps162 (fun g w d => ?_);apply yb;refine yG ?_;iterate 2 refine ya ?_
 apply yk;iterate 3 refine ya ?_
 refine z8 [(36, 2000000), (30, 2000001), (34, 2000002)] (zA m k l h0 h1 hl hE) ?_;iterate 6 refine ya ?_
 refine yd ?_;apply ye;apply yb;refine yg ?_;refine ym rfl ?_ ?_<;>intro hc1
 ·exact absurd rfl hc1
 apply yf;iterate 2 apply ye
 have hg5 : ((decide (((segV m k l).length : Int) <= (M.length : Int))) == false) = true := by rw [hX]; rfl
 ·apply yc;iterate 6 refine ya ?_
  iterate 3 refine zE ?_
  refine zk rfl rfl hg5 ?_;refine z8 [(2000000, 2000000), (2000001, 2000001), (2000002, 2000002)] (zaT (unT m k) k (segV m k l) l M hSO hN hMS hl (by omega) (by omega) (by omega) hok) ?_;refine zE ?_;refine yd ?_;refine ym rfl ?_ ?_<;>intro hc2
  ·apply yb;refine yg ?_;refine X.ret ?_;refine yo (yi (ts := [(8, yh []), (9, iv 2)]) (hs := [])) ?_;refine yy ?_ ?_;all_goals (first | rfl | (simp_all; done))
  first | (exact absurd hc2.2 (by decide)) | (cases hc2; done) | (exact absurd hc2 (by simp [hX])) | (simp [hX] at hc2; done) | (rcases hc2 with h | h <;> first | (cases h; done) | (exact absurd h (by simpa using hX)) | (simp [hX] at h; done) | (exact absurd h (by decide)))
set_option maxHeartbeats 2000000 in
theorem zee (m : Mn) (k : Int) (l : List Ite) (M : List Int) (h0 : -9223372036854775808 <= k) (h1 : k <= 9223372036854775807) (hl : l.length <= 1000000) (hM : M.length <= 4000000) (hE : segE m k l = 0) (hX : (decide (((segV m k l).length : Int) <= (M.length : Int))) = false) (hok : okJ (unT m k) k (segV m k l) l M M.length = true) (hN : ∀ s ∈ segV m k l, 0 <= s.Count.N) (hMS : M.length <= (segV m k l).length) : Fn Tryz.prog 162 [mnA m, iv k, itsA l, yh M] (.tup [yh (alK (unT m k) k (segV m k l) l M M.length), iv 0]) := by
 have hbl := zbs m k l;have hu := ze7 (ze8 hE).1;have hSO := zcl hE;obtain ⟨s, hs⟩ : ∃ s, (segV m k l)[M.length]? = some s := ⟨_, lgg (by simp at hX; omega)⟩;have hs2 : (segV m k l)[(M.length : Int).toNat]? = some s := by simpa using hs
 have hso := hSO.all s (List.mem_of_getElem? hs);have hsb := zib hso.b (zdn (unT m k) (segV m k l) l M M.length);have hsN := hN s (List.mem_of_getElem? hs);have hsl := zdn (unT m k) (segV m k l) l M M.length;have hae : alQ (unT m k) k (stK (unT m k) (segV m k l) l M M.length).1 (stK (unT m k) (segV m k l) l M M.length).2 s = alK (unT m k) k (segV m k l) l M M.length := by unfold alK; rw [show (segV m k l).getD M.length default = s by rw [List.getD_eq_getElem?_getD, hs]; rfl]
 refine Fn.go Tryz.func162 Tryz.ntmps162 (fun g w d => ?_);apply yb;refine yG ?_;iterate 2 refine ya ?_
 apply yk;iterate 3 refine ya ?_
 refine z8 [(36, 2000000), (30, 2000001), (34, 2000002)] (zA m k l h0 h1 hl hE) ?_;iterate 6 refine ya ?_
 refine yd ?_;apply ye;apply yb;refine yg ?_;refine ym rfl ?_ ?_<;>intro hc1
 ·exact absurd rfl hc1
 apply yf;iterate 2 apply ye
 have hg5 : ((decide (((segV m k l).length : Int) <= (M.length : Int))) == false) = true := by rw [hX]; rfl
 ·apply yc;iterate 6 refine ya ?_
  iterate 3 refine zE ?_
  refine zk rfl rfl hg5 ?_;refine z8 [(2000000, 2000000), (2000001, 2000001), (2000002, 2000002)] (zaI (unT m k) k (segV m k l) l M hSO hN hMS hl (by omega) (by omega) (by omega) hok) ?_;refine zE ?_;refine yd ?_;refine ym rfl ?_ ?_<;>intro hc2
  ·first | (exact absurd hc2.2 (by decide)) | (cases hc2; done) | (exact absurd hc2 (by simp [hX])) | (simp [hX] at hc2; done) | (rcases hc2 with h | h <;> first | (cases h; done) | (exact absurd h (by simpa using hX)) | (simp [hX] at h; done) | (exact absurd h (by decide)))
  apply yf;apply yb;iterate 6 refine ya ?_
  refine Ex.stepA (zfN (ι := Nat) (stF := fun b => ⟨[(36, .ept (fun _ : Unit => [.sl itE (stK (unT m k) (segV m k l) l M M.length).1, iv k, iv (unT m k).N, iv (unT m k).D, .val (.map (some b))]) () 0), (41, smA s)], []⟩) 42 (fun g a w hr => znM (k := 2000002) rfl (fun b => (Imp.freeze (k := 2000001) rfl).trans ((y3 (k := 2000000) rfl rfl).trans yi)) (fun _ => rfl) (fun _ => rfl) hr) (fun b => zal (stK (unT m k) (segV m k l) l M M.length).1 k (unT m k) b (stK (unT m k) (segV m k l) l M M.length).2 s hsb (by omega) (by omega) (by omega) hsN)) rfl rfl ?_;refine yg ?_;refine X.ret ?_;refine yo (Imp.freeze (k := 42) rfl) ?_;refine yy ?_ ?_;all_goals (first | exact congrArg (fun z => yh z) hae | rfl)
theorem zfo (m : Mn) (k : Int) (l : List Ite) (M : List Int) (h0 : -9223372036854775808 <= k) (h1 : k <= 9223372036854775807) (hl : l.length <= 1000000) (hM : M.length <= 4000000) (hE : ¬ segE m k l = 0) : Fn Tryz.prog 48 [mnA m, iv k, itsA l, yh M] (.tup [itsA [], iv (segE m k l)]) := by
 refine Fn.go Tryz.func48 Tryz.ntmps48 (fun g w d => ?_);apply yb;refine yG ?_;iterate 2 refine ya ?_
 apply yk;iterate 3 refine ya ?_
 refine yq (zcg m k l h0 h1 hl hE) ?_;iterate 6 refine ya ?_
 refine yd ?_;apply ye;apply yb;refine yg ?_;refine ym rfl ?_ ?_<;>intro hc1
 ·apply yb;refine yr ?_;refine X.ret ?_;refine yo (yi (ts := [(8, itsA []), (9, iv (segE m k l))]) (hs := [])) ?_;refine yy ?_ ?_;all_goals (first | rfl | (simp_all; done))
 exact absurd hc1 hE
theorem zfp (m : Mn) (k : Int) (l : List Ite) (M : List Int) (h0 : -9223372036854775808 <= k) (h1 : k <= 9223372036854775807) (hl : l.length <= 1000000) (hM : M.length <= 4000000) (hE : segE m k l = 0) (hX : (!decide ((M.length : Int) = ((segV m k l).length : Int))) = true) : Fn Tryz.prog 48 [mnA m, iv k, itsA l, yh M] (.tup [itsA [], iv 2]) := by
 have hbl := zbs m k l;have hu := ze7 (ze8 hE).1;have hSO := zcl hE;refine Fn.go Tryz.func48 Tryz.ntmps48 (fun g w d => ?_);apply yb;refine yG ?_;iterate 2 refine ya ?_
 apply yk;iterate 3 refine ya ?_
 refine z8 [(36, 2000000), (30, 2000001), (34, 2000002)] (zA m k l h0 h1 hl hE) ?_;iterate 6 refine ya ?_
 refine yd ?_;apply ye;apply yb;refine yg ?_;refine ym rfl ?_ ?_<;>intro hc1
 ·exact absurd rfl hc1
 apply yf;iterate 2 apply ye
 have hg5 : ((!decide ((M.length : Int) = ((segV m k l).length : Int))) == false) = false := by rw [hX]; rfl
 ·apply yc;iterate 6 refine ya ?_
  iterate 5 refine zaR ?_
  refine yd ?_;refine ym rfl ?_ ?_<;>intro hc2
  ·apply yb;refine yg ?_;refine X.ret ?_;refine yo (yi (ts := [(8, itsA []), (9, iv 2)]) (hs := [])) ?_;refine yy ?_ ?_;all_goals (first | rfl | (simp_all; done))
  first | (exact absurd hc2.2 (by decide)) | (cases hc2; done) | (exact absurd hc2 (by simp [hX])) | (simp [hX] at hc2; done) | (rcases hc2 with h | h <;> first | (cases h; done) | (exact absurd h (by simpa using hX)) | (simp [hX] at h; done) | (exact absurd h (by decide)))
theorem zfq (m : Mn) (k : Int) (l : List Ite) (M : List Int) (h0 : -9223372036854775808 <= k) (h1 : k <= 9223372036854775807) (hl : l.length <= 1000000) (hM : M.length <= 4000000) (hE : segE m k l = 0) (hX : (!decide ((M.length : Int) = ((segV m k l).length : Int))) = false) (hok : okJ (unT m k) k (segV m k l) l M M.length = false) (hN : ∀ s ∈ segV m k l, 0 <= s.Count.N) (hMS : M.length <= (segV m k l).length) : Fn Tryz.prog 48 [mnA m, iv k, itsA l, yh M] (.tup [itsA [], iv 2]) := by
 have hbl := zbs m k l;have hu := ze7 (ze8 hE).1;have hSO := zcl hE;refine Fn.go Tryz.func48 Tryz.ntmps48 (fun g w d => ?_);apply yb;refine yG ?_;iterate 2 refine ya ?_
 apply yk;iterate 3 refine ya ?_
 refine z8 [(36, 2000000), (30, 2000001), (34, 2000002)] (zA m k l h0 h1 hl hE) ?_;iterate 6 refine ya ?_
 refine yd ?_;apply ye;apply yb;refine yg ?_;refine ym rfl ?_ ?_<;>intro hc1
 ·exact absurd rfl hc1
 apply yf;iterate 2 apply ye
 have hg5 : ((!decide ((M.length : Int) = ((segV m k l).length : Int))) == false) = true := by rw [hX]; rfl
 ·apply yc;iterate 6 refine ya ?_
  iterate 3 refine zE ?_
  refine zk rfl rfl hg5 ?_;refine z8 [(2000000, 2000000), (2000001, 2000001), (2000002, 2000002)] (zaT (unT m k) k (segV m k l) l M hSO hN hMS hl (by omega) (by omega) (by omega) hok) ?_;refine zE ?_;refine yd ?_;refine ym rfl ?_ ?_<;>intro hc2
  ·apply yb;refine yg ?_;refine X.ret ?_;refine yo (yi (ts := [(8, itsA []), (9, iv 2)]) (hs := [])) ?_;refine yy ?_ ?_;all_goals (first | rfl | (simp_all; done))
  first | (exact absurd hc2.2 (by decide)) | (cases hc2; done) | (exact absurd hc2 (by simp [hX])) | (simp [hX] at hc2; done) | (rcases hc2 with h | h <;> first | (cases h; done) | (exact absurd h (by simpa using hX)) | (simp [hX] at h; done) | (exact absurd h (by decide)))
set_option maxHeartbeats 2000000 in
theorem zfr (m : Mn) (k : Int) (l : List Ite) (M : List Int) (h0 : -9223372036854775808 <= k) (h1 : k <= 9223372036854775807) (hl : l.length <= 1000000) (hM : M.length <= 4000000) (hE : segE m k l = 0) (hX : (!decide ((M.length : Int) = ((segV m k l).length : Int))) = false) (hok : okJ (unT m k) k (segV m k l) l M M.length = true) (hN : ∀ s ∈ segV m k l, 0 <= s.Count.N) (hMS : M.length <= (segV m k l).length) : Fn Tryz.prog 48 [mnA m, iv k, itsA l, yh M] (.tup [itsA (stK (unT m k) (segV m k l) l M M.length).1, iv 0]) := by
 have hbl := zbs m k l;have hu := ze7 (ze8 hE).1;have hSO := zcl hE;refine Fn.go Tryz.func48 Tryz.ntmps48 (fun g w d => ?_);apply yb;refine yG ?_;iterate 2 refine ya ?_
 apply yk;iterate 3 refine ya ?_
 refine z8 [(36, 2000000), (30, 2000001), (34, 2000002)] (zA m k l h0 h1 hl hE) ?_;iterate 6 refine ya ?_
 refine yd ?_;apply ye;apply yb;refine yg ?_;refine ym rfl ?_ ?_<;>intro hc1
 ·exact absurd rfl hc1
 apply yf;iterate 2 apply ye
 have hg5 : ((!decide ((M.length : Int) = ((segV m k l).length : Int))) == false) = true := by rw [hX]; rfl
 ·apply yc;iterate 6 refine ya ?_
  iterate 3 refine zE ?_
  refine zk rfl rfl hg5 ?_;refine z8 [(2000000, 2000000), (2000001, 2000001), (2000002, 2000002)] (zaI (unT m k) k (segV m k l) l M hSO hN hMS hl (by omega) (by omega) (by omega) hok) ?_;refine zE ?_;refine yd ?_;refine ym rfl ?_ ?_<;>intro hc2
  ·first | (exact absurd hc2.2 (by decide)) | (cases hc2; done) | (exact absurd hc2 (by simp [hX])) | (simp [hX] at hc2; done) | (rcases hc2 with h | h <;> first | (cases h; done) | (exact absurd h (by simpa using hX)) | (simp [hX] at h; done) | (exact absurd h (by decide)))
  apply yf;apply yb;refine ya ?_;refine ya ?_ (hs := by exact yI rfl);refine zv ?_;refine X.ret ?_;refine yo (Imp.freeze (k := 2000001) rfl) ?_;refine yy ?_ ?_;all_goals (first | exact congrArg (fun z => yh z) hae | rfl)
end Go.Rse
namespace Go.Rse
open Go Go.Proofs
attribute [local irreducible] Pur yD yE Ex X Fn Imp LeV LeB FnO It yH FnW FnOW
attribute [local irreducible] fsA fsL drL addV addE subV subE divV divE sumF itR
end Go.Rse
namespace Go.Rse
open Go Go.Proofs
attribute [local irreducible] Pur yD yE Ex X Fn Imp LeV LeB FnO It yH FnW FnOW
attribute [local irreducible] fsL fsA lgQ rcQ cmpV addV addE subV subE drL itR
end Go.Rse
namespace Go.Rse
open Go Go.Proofs
attribute [local irreducible] Pur yD yE Ex X Fn Imp LeV LeB FnO It yH FnW FnOW
attribute [local irreducible] fsA addV addE subV subE lsE cnA cnB cnC cnE cnV cn1 divE divV sumF itR drL
end Go.Rse
namespace Go.Rse
open Go Go.Proofs
attribute [local irreducible] Pur yD yE Ex X Fn Imp LeV LeB FnO It yH FnW FnOW
attribute [local irreducible] addV addE subV subE chA chB chN
end Go.Rse
namespace Go.Rse
open Go Go.Proofs
attribute [local irreducible] Pur yD yE Ex X Fn Imp LeV LeB FnO It yH FnW FnOW
attribute [local irreducible] stK okJ alK alQ chN chL segV segE unT
end Go.Rse
