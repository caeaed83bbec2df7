/-
  Walks.
-/
import Derived.Test.YtkpbljifckjeoaaGreatDoorYLvl11
set_option linter.unusedSimpArgs false
set_option linter.unusedVariables false
namespace Go.Rse
open Go Go.Proofs
section
attribute [local irreducible] Pur yr yw Ex X Fn Imp LeV LeB FnO It yx FnW FnOW
theorem znw {u : Tm} {k : Int} {S : List Sgm} {l : List Ite} {M : List Int} {n : Nat} : ∀ {n' : Nat}, okJ u k S l M n' = true -> n <= n' -> okJ u k S l M n = true
 | 0, h, hn => by have : n = 0 := by omega
                  subst this; exact h
 | n' + 1, h, hn => by
  by_cases e : n = n' + 1
  ·subst e; exact h
  ·have h' : (okJ u k S l M n' && decide (M.getD n' 0 ∈ alK u k S l M n')) = true := h;simp only [Bool.and_eq_true] at h';exact znw h'.1 (by omega)
theorem zre {u : Tm} {k : Int} {S : List Sgm} {l : List Ite} {M : List Int} {n : Nat} {s : Sgm} {c : Int} (hs : S[n]? = some s) (hc : M[n]? = some c) : okJ u k S l M (n + 1) = (okJ u k S l M n && decide (c ∈ alQ u k (stK u S l M n).1 (stK u S l M n).2 s)) := by
 have e1 : S.getD n default = s := by rw [List.getD_eq_getElem?_getD, hs]; rfl
 have e2 : M.getD n 0 = c := by rw [List.getD_eq_getElem?_getD, hc]; rfl
 show (okJ u k S l M n && decide (M.getD n 0 ∈ alK u k S l M n)) = _;unfold alK; rw [e1, e2]
theorem zrf {u : Tm} {S : List Sgm} {l : List Ite} {M : List Int} {n : Nat} {s : Sgm} {c : Int} (hs : S[n]? = some s) (hc : M[n]? = some c) : chN u s c (stK u S l M n).1 = (stK u S l M (n + 1)).1 /\ chL s c (stK u S l M n).2 = (stK u S l M (n + 1)).2 := by
 have e1 : S.getD n default = s := by rw [List.getD_eq_getElem?_getD, hs]; rfl
 have e2 : M.getD n 0 = c := by rw [List.getD_eq_getElem?_getD, hc]; rfl
 rw [zod, e1, e2]; exact ⟨rfl, rfl⟩
theorem zly (u : Tm) (k : Int) (l : List Ite) (L : List (Int × Bool)) (s : Sgm) : (alQ u k l L s).length <= 5 := by
 unfold alQ alR;simp only [List.length_append];have h : ∀ (p : Prop) [Decidable p] (x : Int), (if p then [x] else []).length <= 1 := fun p _ x => by split <;> simp
 have h1 := h (s.Count.N % 3 = 0 \/ s.Free = true) 0;have h2 := h (s.Count.N % 3 = 1 /\ s.Count.D = 1 /\ poQ u k l L s = true) 1;have h3 := h (s.Count.N % 3 = 1 /\ s.Free = false /\ anQ u k l s = true) 2;have h4 := h (s.Count.N % 3 = 2 /\ s.Free = false /\ poQ u k l L s = true /\ anQ u k l s = true) 3;have h5 := h (s.Count.N % 3 = 2 /\ s.Free = false /\ atQ u k l s = true) 4;omega
theorem ziY {n n' : Nat} {s : Sgm} (h : SgB n s) (e : n' = n) : SgB n' s := e ▸ h
attribute [local irreducible] stK okJ alQ chN chL
set_option maxHeartbeats 4000000 in
theorem zaX (u : Tm) (k : Int) (S : List Sgm) (l : List Ite) (M : List Int) (hS : SgsOk k l S) (hN : ∀ s ∈ S, 0 <= s.Count.N) (hM : M.length <= S.length) (hl : l.length <= 1000000) (hSl : S.length <= 4000000) (k0 : -9223372036854775808 <= k) (k1 : k + 1 <= 9223372036854775807) (hok : okJ u k S l M M.length = true) : FnO Tryz.prog 179 [.ptr 2000000 0 0 0, smsA S, yf M] [(2000000, .box [.own 2000001, iv k, iv u.N, iv u.D, .mp 2000002] 243), (2000001, .row itE (l) 120 12), (2000002, .mpb (fun i : Int => .int .i64 i) AV.bool ([]))] [2000000, 2000001, 2000002] (.bool true) [(2000000, .box [.own 2000001, iv k, iv u.N, iv u.D, .mp 2000002] 243), (2000001, .row itE ((stK u S l M M.length).1) 120 12), (2000002, .mpb (fun i : Int => .int .i64 i) AV.bool ((stK u S l M M.length).2))] := by
 have h00 : (stK u S l M 0).1 = l := by unfold stK; rfl
 have h01 : (stK u S l M 0).2 = [] := by unfold stK; rfl
 have h02 := h00.symm;have h03 := h01.symm;refine FnO.introX (ts := [(0, .ptr 2000000 0 0 0), (1, smsA S), (2, yf M)]) (rv := [.tmp 6]) (n := 36) (cs := [.ptr 2000000 0 0 0, .own 2000001, .mp 2000002]) (by kernel_rfl) Tryz.func179 rfl Tryz.ntmps179 rfl rfl (by simp) rfl rfl rfl rfl (fun g w d vs => ?_);apply yg;refine ya ?_;apply yI;refine ya ?_;refine ya (hs := ziF rfl) ?_;refine gq ?_
 refine yS (ι := Nat) (fun (n : Nat) => [(0, .ptr 2000000 0 0 0), (1, smsA S), (7, .mth 211 2000000 0 0 0), (12, yf M), (13, iv M.length), (14, iv (n : Int))]) (fun (n : Nat) => [(1000001, .hold vs [.ptr 2000000 0 0 0, .own 2000001, .mp 2000002]), (2000000, .box [.own 2000001, iv k, iv u.N, iv u.D, .mp 2000002] 243), (2000001, .row itE ((stK u S l M n).1) 120 12), (2000002, .mpb (fun i : Int => .int .i64 i) AV.bool ((stK u S l M n).2))]) (fun (n : Nat) => n <= M.length) (fun (n : Nat) => M.length - n) 0 (fun n hk => ?_) (h0 := by
  exact Imp.of (by (repeat' (first | exact True.intro | (refine And.intro ⟨_, rfl, ?_⟩ ?_; (first | exact LeV.refl _ | exact LeV.any _ | exact LeB.refl _ | (refine LeV.eq ?_; simp; done) | (refine LeV.eq ?_; congr 1; omega) | (refine LeV.eq ?_; dsimp only; congr 1; omega) | (refine LeV.eq (congrArg (AV.int _) ?_); omega) | exact LeV.nils _ | exact LeB.row (by assumption) | (refine LeB.eq ?_; congr 1; omega) | (refine LeB.eq ?_; congr 1; simp only [cond_true, cond_false]; omega)))))) (by (repeat' (first | exact True.intro | (refine And.intro ⟨_, rfl, ?_⟩ ?_; (first | exact LeB.refl _ | exact LeB.row (by assumption) | exact LeB.eq (congrArg (fun z => Blk.mpb (fun i : Int => .int .i64 i) AV.bool z) h03) | exact LeB.eq (congrArg (fun z => Blk.mpb (fun i : Int => .int .i64 i) AV.bool z) hst2)))))))
 refine gd ?_ ?_<;>intro hc1
 ·obtain ⟨s, hs⟩ : ∃ s, S[n]? = some s := ⟨_, lgg (by omega)⟩;have hs2 : S[(n : Int).toNat]? = some s := by simpa using hs
  obtain ⟨c, hc⟩ : ∃ c, M[n]? = some c := ⟨_, lgg (by omega)⟩;have hc2 : M[(n : Int).toNat]? = some c := by simpa using hc
  have hsl := zd2 u S l M n;have hso := hS.all s (List.mem_of_getElem? hs);have hsb := ziY hso.b hsl;have hst0 := zrf (u := u) (l := l) hs hc;have hst1 := hst0.1;have hst2 := hst0.2;have hsN := hN s (List.mem_of_getElem? hs);have hal := zly u k (stK u S l M n).1 (stK u S l M n).2 s;have hoj := zre (u := u) (k := k) (l := l) hs hc
  have hmem : c ∈ alQ u k (stK u S l M n).1 (stK u S l M n).2 s := by
   have h := znw hok (show n + 1 <= M.length by omega);rw [hoj] at h; simpa using (Bool.and_eq_true_iff.1 h).2
  refine gq ?_;refine Ex.stepA (zgJ (ι := Nat) (stF := fun b => ⟨[(19, .ept (fun _ : Unit => [.sl itE (stK u S l M n).1, iv k, iv u.N, iv u.D, .val (.map (some b))]) () 0), (23, smA s)], []⟩) 24 (fun g a w hr => zoX (k := 2000002) rfl (fun b => (Imp.freeze (k := 2000001) rfl).trans ((yR (k := 2000000) rfl rfl).trans ye)) (fun _ => rfl) (fun _ => rfl) hr) (fun b => zaC (stK u S l M n).1 k u b (stK u S l M n).2 s hsb (by omega) k0 k1 hsN)) rfl rfl ?_;refine Ex.imp (st' := ⟨[(0, .ptr 2000000 0 0 0), (1, smsA S), (7, .mth 211 2000000 0 0 0), (8, iv (n : Int)), (9, iv c), (12, yf M), (13, iv M.length), (14, iv (n : Int)), (24, yf (alQ u k (stK u S l M n).1 (stK u S l M n).2 s))], [(1000001, .hold vs [.ptr 2000000 0 0 0, .own 2000001, .mp 2000002]), (2000000, .box [.own 2000001, iv k, iv u.N, iv u.D, .mp 2000002] 243), (2000001, .row itE ((stK u S l M n).1) 120 12), (2000002, .mpb (fun i : Int => .int .i64 i) AV.bool ((stK u S l M n).2))]⟩) ((Imp.freeze (k := 24) rfl).trans ye) ?_;refine gq ?_;refine yb (yK (alQ u k (stK u S l M n).1 (stK u S l M n).2 s) c (by omega)) ?_;refine gd ?_ ?_<;>intro hc2
  ·exact absurd hmem hc2
  refine gq ?_;refine z8 (zrJ [(2000000, 2000000), (2000001, 2000001), (2000002, 2000002)] (zce (stK u S l M n).1 k u (stK u S l M n).2 s c hsb (znu hso.ft hmem) (by omega))) ?_;refine gq ?_;refine yz (n + 1) (hI := Imp.of (by (repeat' (first | exact True.intro | (refine And.intro ⟨_, rfl, ?_⟩ ?_; (first | exact LeV.refl _ | exact LeV.any _ | exact LeB.refl _ | (refine LeV.eq ?_; simp; done) | (refine LeV.eq ?_; congr 1; omega) | (refine LeV.eq ?_; dsimp only; congr 1; omega) | (refine LeV.eq (congrArg (AV.int _) ?_); omega) | exact LeV.nils _ | exact LeB.row (by assumption) | (refine LeB.eq ?_; congr 1; omega) | (refine LeB.eq ?_; congr 1; simp only [cond_true, cond_false]; omega)))))) (by (repeat' (first | exact True.intro | (refine And.intro ⟨_, rfl, ?_⟩ ?_; (first | exact LeB.refl _ | exact LeB.row (by assumption) | exact LeB.eq (congrArg (fun z => Blk.mpb (fun i : Int => .int .i64 i) AV.bool z) h03) | exact LeB.eq (congrArg (fun z => Blk.mpb (fun i : Int => .int .i64 i) AV.bool z) hst2)))))))
 ·have hn : n = M.length := by omega
  subst hn;apply X.exit;apply yg;refine yu ?_;refine X.ret ?_;refine ziE.mk [(6, .bool true)] [] (.inr rfl) (.one (.tmp rfl (LeV.eq ?_)));all_goals (rfl)
set_option maxHeartbeats 4000000 in
theorem zdi (u : Tm) (k : Int) (S : List Sgm) (l : List Ite) (M : List Int) (hS : SgsOk k l S) (hN : ∀ s ∈ S, 0 <= s.Count.N) (hM : M.length <= S.length) (hl : l.length <= 1000000) (hSl : S.length <= 4000000) (k0 : -9223372036854775808 <= k) (k1 : k + 1 <= 9223372036854775807) (hok : okJ u k S l M M.length = false) : FnO Tryz.prog 179 [.ptr 2000000 0 0 0, smsA S, yf M] [(2000000, .box [.own 2000001, iv k, iv u.N, iv u.D, .mp 2000002] 243), (2000001, .row itE (l) 120 12), (2000002, .mpb (fun i : Int => .int .i64 i) AV.bool ([]))] [] (.bool false) [] := by
 have h00 : (stK u S l M 0).1 = l := by unfold stK; rfl
 have h01 : (stK u S l M 0).2 = [] := by unfold stK; rfl
 have h02 := h00.symm;have h03 := h01.symm;refine FnO.introX (ts := [(0, .ptr 2000000 0 0 0), (1, smsA S), (2, yf M)]) (rv := [.tmp 6]) (n := 36) (cs := []) (by kernel_rfl) Tryz.func179 rfl Tryz.ntmps179 rfl rfl (by simp) rfl rfl rfl rfl (fun g w d vs => ?_);apply yg;refine ya ?_;apply yI;refine ya ?_;refine ya (hs := ziF rfl) ?_;refine gq ?_
 refine yS (ι := Nat) (fun (n : Nat) => [(0, .ptr 2000000 0 0 0), (1, smsA S), (7, .mth 211 2000000 0 0 0), (12, yf M), (13, iv M.length), (14, iv (n : Int))]) (fun (n : Nat) => [(1000001, .hold vs []), (2000000, .box [.own 2000001, iv k, iv u.N, iv u.D, .mp 2000002] 243), (2000001, .row itE ((stK u S l M n).1) 120 12), (2000002, .mpb (fun i : Int => .int .i64 i) AV.bool ((stK u S l M n).2))]) (fun (n : Nat) => n <= M.length /\ okJ u k S l M n = true) (fun (n : Nat) => M.length - n) 0 (fun n hk => ?_) (hJ := by
  exact ⟨by omega, by unfold okJ; rfl⟩) (h0 := by
  exact Imp.of (by (repeat' (first | exact True.intro | (refine And.intro ⟨_, rfl, ?_⟩ ?_; (first | exact LeV.refl _ | exact LeV.any _ | exact LeB.refl _ | (refine LeV.eq ?_; simp; done) | (refine LeV.eq ?_; congr 1; omega) | (refine LeV.eq ?_; dsimp only; congr 1; omega) | (refine LeV.eq (congrArg (AV.int _) ?_); omega) | exact LeV.nils _ | exact LeB.row (by assumption) | (refine LeB.eq ?_; congr 1; omega) | (refine LeB.eq ?_; congr 1; simp only [cond_true, cond_false]; omega)))))) (by (repeat' (first | exact True.intro | (refine And.intro ⟨_, rfl, ?_⟩ ?_; (first | exact LeB.refl _ | exact LeB.row (by assumption) | exact LeB.eq (congrArg (fun z => Blk.mpb (fun i : Int => .int .i64 i) AV.bool z) h03) | exact LeB.eq (congrArg (fun z => Blk.mpb (fun i : Int => .int .i64 i) AV.bool z) hst2)))))))
 obtain ⟨hk1, hk2⟩ := hk;refine gd ?_ ?_<;>intro hc1
 ·obtain ⟨s, hs⟩ : ∃ s, S[n]? = some s := ⟨_, lgg (by omega)⟩;have hs2 : S[(n : Int).toNat]? = some s := by simpa using hs
  obtain ⟨c, hc⟩ : ∃ c, M[n]? = some c := ⟨_, lgg (by omega)⟩;have hc2 : M[(n : Int).toNat]? = some c := by simpa using hc
  have hsl := zd2 u S l M n;have hso := hS.all s (List.mem_of_getElem? hs);have hsb := ziY hso.b hsl;have hst0 := zrf (u := u) (l := l) hs hc;have hst1 := hst0.1;have hst2 := hst0.2;have hsN := hN s (List.mem_of_getElem? hs);have hal := zly u k (stK u S l M n).1 (stK u S l M n).2 s;have hoj := zre (u := u) (k := k) (l := l) hs hc;refine gq ?_;refine Ex.stepA (zgJ (ι := Nat) (stF := fun b => ⟨[(19, .ept (fun _ : Unit => [.sl itE (stK u S l M n).1, iv k, iv u.N, iv u.D, .val (.map (some b))]) () 0), (23, smA s)], []⟩) 24 (fun g a w hr => zoX (k := 2000002) rfl (fun b => (Imp.freeze (k := 2000001) rfl).trans ((yR (k := 2000000) rfl rfl).trans ye)) (fun _ => rfl) (fun _ => rfl) hr) (fun b => zaC (stK u S l M n).1 k u b (stK u S l M n).2 s hsb (by omega) k0 k1 hsN)) rfl rfl ?_;refine Ex.imp (st' := ⟨[(0, .ptr 2000000 0 0 0), (1, smsA S), (7, .mth 211 2000000 0 0 0), (8, iv (n : Int)), (9, iv c), (12, yf M), (13, iv M.length), (14, iv (n : Int)), (24, yf (alQ u k (stK u S l M n).1 (stK u S l M n).2 s))], [(1000001, .hold vs []), (2000000, .box [.own 2000001, iv k, iv u.N, iv u.D, .mp 2000002] 243), (2000001, .row itE ((stK u S l M n).1) 120 12), (2000002, .mpb (fun i : Int => .int .i64 i) AV.bool ((stK u S l M n).2))]⟩) ((Imp.freeze (k := 24) rfl).trans ye) ?_;refine gq ?_;refine yb (yK (alQ u k (stK u S l M n).1 (stK u S l M n).2 s) c (by omega)) ?_;refine gd ?_ ?_<;>intro hc2
  ·apply yg;refine yu ?_;refine X.ret ?_;refine ziE.mk [(6, .bool false)] [(2000000, .box [.own 2000001, iv k, iv u.N, iv u.D, .mp 2000002] 243), (2000001, .row itE ((stK u S l M n).1) 120 12), (2000002, .mpb (fun i : Int => .int .i64 i) AV.bool ((stK u S l M n).2))] (.inr rfl) (.one (.tmp rfl (LeV.eq ?_)));all_goals (rfl)
  have hmem : c ∈ alQ u k (stK u S l M n).1 (stK u S l M n).2 s := hc2;refine gq ?_;refine z8 (zrJ [(2000000, 2000000), (2000001, 2000001), (2000002, 2000002)] (zce (stK u S l M n).1 k u (stK u S l M n).2 s c hsb (znu hso.ft hmem) (by omega))) ?_;refine gq ?_
  refine yz (n + 1) (hJ := by
   exact ⟨by omega, by rw [hoj, hk2, decide_eq_true hmem]; rfl⟩) (hI := Imp.of (by (repeat' (first | exact True.intro | (refine And.intro ⟨_, rfl, ?_⟩ ?_; (first | exact LeV.refl _ | exact LeV.any _ | exact LeB.refl _ | (refine LeV.eq ?_; simp; done) | (refine LeV.eq ?_; congr 1; omega) | (refine LeV.eq ?_; dsimp only; congr 1; omega) | (refine LeV.eq (congrArg (AV.int _) ?_); omega) | exact LeV.nils _ | exact LeB.row (by assumption) | (refine LeB.eq ?_; congr 1; omega) | (refine LeB.eq ?_; congr 1; simp only [cond_true, cond_false]; omega)))))) (by (repeat' (first | exact True.intro | (refine And.intro ⟨_, rfl, ?_⟩ ?_; (first | exact LeB.refl _ | exact LeB.row (by assumption) | exact LeB.eq (congrArg (fun z => Blk.mpb (fun i : Int => .int .i64 i) AV.bool z) h03) | exact LeB.eq (congrArg (fun z => Blk.mpb (fun i : Int => .int .i64 i) AV.bool z) hst2)))))))
 ·have hn : n = M.length := by omega
  subst hn;exact absurd hk2 (by rw [hok]; decide)
end
section
attribute [local irreducible] Pur yr yw Ex X Fn Imp LeV LeB FnO It yx FnW FnOW
theorem zcy (m : Mn) (k : Int) (l : List Ite) : (segV m k l).length <= 2 * l.length + 2 := by
 unfold segV;split
 ·rw [List.length_map, zfk, zeY]; have := zd1 k l l.length; omega
 ·simp
attribute [local irreducible] stK okJ alQ chN chL segV segE apE apV unT
theorem zf8 (m : Mn) (k : Int) (l : List Ite) (M : List Int) (h0 : -9223372036854775808 <= k) (h1 : k <= 9223372036854775807) (hl : l.length <= 1000000) (hM : M.length <= 4000000) (hE : ¬ segE m k l = 0) : Fn Tryz.prog 134 [mnA m, iv k, itsA l, yf M] (.tup [itsA [], iv (segE m k l)]) := by
 refine Fn.go Tryz.func134 Tryz.ntmps134 (fun g w d => ?_);refine gq ?_;refine yb (zfS m k l h0 h1 hl hE) ?_;refine gd ?_ ?_<;>intro hc1
 ·apply yg;refine zh ?_;refine X.ret ?_;refine RetQ.imp (ye (ts := [(8, itsA []), (9, iv (segE m k l))]) (hs := [])) ?_;refine yi ?_ ?_;all_goals (first | rfl | (simp_all; done))
 exact absurd hc1 hE
theorem zf9 (m : Mn) (k : Int) (l : List Ite) (M : List Int) (h0 : -9223372036854775808 <= k) (h1 : k <= 9223372036854775807) (hl : l.length <= 1000000) (hM : M.length <= 4000000) (hE : segE m k l = 0) (hX : (!decide ((M.length : Int) = ((segV m k l).length : Int))) = true) : Fn Tryz.prog 134 [mnA m, iv k, itsA l, yf M] (.tup [itsA [], iv 2]) := by
 have hbl := zcy m k l;have hu := zl0 (zlv hE).1;have hSO := ziW hE;refine Fn.go Tryz.func134 Tryz.ntmps134 (fun g w d => ?_);refine gq ?_;refine zaF [(36, 2000000), (30, 2000001), (34, 2000002)] (zay m k l h0 h1 hl hE) ?_;refine gd ?_ ?_<;>intro hc1
 ·exact absurd rfl hc1
 apply yp;iterate 2 apply yl
 have hg5 : ((!decide ((M.length : Int) = ((segV m k l).length : Int))) == false) = false := by rw [hX]; rfl
 ·apply ym;iterate 6 refine ya ?_
  iterate 5 refine zaT ?_
  refine gd ?_ ?_<;>intro hc2
  ·apply yg;refine zm ?_;refine X.ret ?_;refine RetQ.imp (ye (ts := [(8, itsA []), (9, iv 2)]) (hs := [])) ?_;refine yi ?_ ?_;all_goals (first | rfl | (simp_all; done))
  first | (exact absurd hc2.2 (by decide)) | (cases hc2; done) | (exact absurd hc2 (by simp [hX])) | (simp [hX] at hc2; done) | (rcases hc2 with h | h <;> first | (cases h; done) | (exact absurd h (by simpa using hX)) | (simp [hX] at h; done) | (exact absurd h (by decide)))
theorem zga (m : Mn) (k : Int) (l : List Ite) (M : List Int) (h0 : -9223372036854775808 <= k) (h1 : k <= 9223372036854775807) (hl : l.length <= 1000000) (hM : M.length <= 4000000) (hE : segE m k l = 0) (hX : (!decide ((M.length : Int) = ((segV m k l).length : Int))) = false) (hok : okJ (unT m k) k (segV m k l) l M M.length = false) (hN : ∀ s ∈ segV m k l, 0 <= s.Count.N) (hMS : M.length <= (segV m k l).length) : Fn Tryz.prog 134 [mnA m, iv k, itsA l, yf M] (.tup [itsA [], iv 2]) := by
 have hbl := zcy m k l;have hu := zl0 (zlv hE).1;have hSO := ziW hE;refine Fn.go Tryz.func134 Tryz.ntmps134 (fun g w d => ?_);refine gq ?_;refine zaF [(36, 2000000), (30, 2000001), (34, 2000002)] (zay m k l h0 h1 hl hE) ?_;refine gd ?_ ?_<;>intro hc1
 ·exact absurd rfl hc1
 apply yp;iterate 2 apply yl
 have hg5 : ((!decide ((M.length : Int) = ((segV m k l).length : Int))) == false) = true := by rw [hX]; rfl
 ·apply ym;iterate 6 refine ya ?_
  iterate 3 refine zM ?_
  refine zeO rfl rfl hg5 ?_;refine zaF [(2000000, 2000000), (2000001, 2000001), (2000002, 2000002)] (zdi (unT m k) k (segV m k l) l M hSO hN hMS hl (by omega) (by omega) (by omega) hok) ?_;refine zM ?_;refine gd ?_ ?_<;>intro hc2
  ·apply yg;refine zm ?_;refine X.ret ?_;refine RetQ.imp (ye (ts := [(8, itsA []), (9, iv 2)]) (hs := [])) ?_;refine yi ?_ ?_;all_goals (first | rfl | (simp_all; done))
  first | (exact absurd hc2.2 (by decide)) | (cases hc2; done) | (exact absurd hc2 (by simp [hX])) | (simp [hX] at hc2; done) | (rcases hc2 with h | h <;> first | (cases h; done) | (exact absurd h (by simpa using hX)) | (simp [hX] at h; done) | (exact absurd h (by decide)))
set_option maxHeartbeats 2000000 in
theorem zgb (m : Mn) (k : Int) (l : List Ite) (M : List Int) (h0 : -9223372036854775808 <= k) (h1 : k <= 9223372036854775807) (hl : l.length <= 1000000) (hM : M.length <= 4000000) (hE : segE m k l = 0) (hX : (!decide ((M.length : Int) = ((segV m k l).length : Int))) = false) (hok : okJ (unT m k) k (segV m k l) l M M.length = true) (hN : ∀ s ∈ segV m k l, 0 <= s.Count.N) (hMS : M.length <= (segV m k l).length) : Fn Tryz.prog 134 [mnA m, iv k, itsA l, yf M] (.tup [itsA (stK (unT m k) (segV m k l) l M M.length).1, iv 0]) := by
 have hbl := zcy m k l;have hu := zl0 (zlv hE).1;have hSO := ziW hE;refine Fn.go Tryz.func134 Tryz.ntmps134 (fun g w d => ?_);refine gq ?_;refine zaF [(36, 2000000), (30, 2000001), (34, 2000002)] (zay m k l h0 h1 hl hE) ?_;refine gd ?_ ?_<;>intro hc1
 ·exact absurd rfl hc1
 apply yp;iterate 2 apply yl
 have hg5 : ((!decide ((M.length : Int) = ((segV m k l).length : Int))) == false) = true := by rw [hX]; rfl
 ·apply ym;iterate 6 refine ya ?_
  iterate 3 refine zM ?_
  refine zeO rfl rfl hg5 ?_;refine zaF [(2000000, 2000000), (2000001, 2000001), (2000002, 2000002)] (zaX (unT m k) k (segV m k l) l M hSO hN hMS hl (by omega) (by omega) (by omega) hok) ?_;refine zM ?_;refine gd ?_ ?_<;>intro hc2
  ·first | (exact absurd hc2.2 (by decide)) | (cases hc2; done) | (exact absurd hc2 (by simp [hX])) | (simp [hX] at hc2; done) | (rcases hc2 with h | h <;> first | (cases h; done) | (exact absurd h (by simpa using hX)) | (simp [hX] at h; done) | (exact absurd h (by decide)))
  apply yp;apply yg;refine ya ?_;refine ya ?_ (hs := by exact yk rfl);refine zko ?_;refine X.ret ?_;refine RetQ.imp (Imp.freeze (k := 2000001) rfl) ?_;refine yi ?_ ?_;all_goals (first | exact congrArg (fun z => yf z) hae | rfl)
end
section
attribute [local irreducible] Pur yr yw Ex X Fn Imp LeV LeB FnO It yx FnW FnOW
attribute [local irreducible] fsA fsL drL addV addE subV subE divV divE sumF itR
end
section
attribute [local irreducible] Pur yr yw Ex X Fn Imp LeV LeB FnO It yx FnW FnOW
attribute [local irreducible] fsL fsA lgQ rcQ cmpV addV addE subV subE drL itR
end
section
attribute [local irreducible] Pur yr yw Ex X Fn Imp LeV LeB FnO It yx FnW FnOW
attribute [local irreducible] fsA addV addE subV subE lsE cnA cnB cnC cnE cnV cn1 divE divV sumF itR drL
end
section
attribute [local irreducible] Pur yr yw Ex X Fn Imp LeV LeB FnO It yx FnW FnOW
attribute [local irreducible] addV addE subV subE chA chB chN
end
section
attribute [local irreducible] Pur yr yw Ex X Fn Imp LeV LeB FnO It yx FnW FnOW
attribute [local irreducible] stK okJ alK alQ chN chL segV segE unT
end
section
attribute [local irreducible] Pur yr yw Ex X Fn Imp LeV LeB FnO It yx FnW FnOW
theorem zpo (n d : Int) : 0 <= (tmkT n d).N := by
 unfold tmkT;split
 ·rename_i h;unfold tmkE at h;split at h
  ·cases h
  ·refine Int.ediv_nonneg (by omega) ?_;unfold gI; omega
 ·exact Int.le_refl _
theorem zsa (u : Tm) (l : List Ite) (s : Sgm) : 0 <= (cnV u l s).N := by
 unfold cnV;split
 ·unfold divV;split
  ·split
   ·exact Int.le_refl _
   ·unfold tmsV;split
    ·exact Int.le_refl _
    ·exact zpo _ _
  ·exact Int.le_refl _
 ·exact Int.le_refl _
theorem ziZ (m : Mn) (k : Int) (l : List Ite) : ∀ s ∈ segV m k l, 0 <= s.Count.N := by
 unfold segV;split
 ·intro s hs;obtain ⟨t, ht, rfl⟩ := List.mem_map.1 hs;exact zsa _ _ _
 ·intro s hs; cases hs
section
variable {m : Mn} {k : Int} {l : List Ite} {M : List Int}
theorem zxH (h : ¬ segE m k l = 0) : apE m k l M = segE m k l /\ apV m k l M = [] := by
 have : apE m k l M = segE m k l := by unfold apE; rw [if_neg h]
 refine ⟨this, ?_⟩; unfold apV; rw [this, if_neg h]
theorem zug (h : segE m k l = 0) (h2 : ¬ (segV m k l).length = M.length \/ okJ (unT m k) k (segV m k l) l M M.length = false) : apE m k l M = 2 /\ apV m k l M = [] := by
 have : apE m k l M = 2 := by unfold apE; rw [if_pos h, if_pos h2]
 refine ⟨this, ?_⟩; unfold apV; rw [this, if_neg (by decide)]
theorem zxI (h : segE m k l = 0) (h2 : ¬ (¬ (segV m k l).length = M.length \/ okJ (unT m k) k (segV m k l) l M M.length = false)) : apE m k l M = 0 /\ apV m k l M = (stK (unT m k) (segV m k l) l M M.length).1 := by
 have : apE m k l M = 0 := by unfold apE; rw [if_pos h, if_neg h2]
 refine ⟨this, ?_⟩; unfold apV; rw [if_pos this]
end
theorem zhS (m : Mn) (k : Int) (l : List Ite) (M : List Int) (h0 : -9223372036854775808 <= k) (h1 : k <= 9223372036854775807) (hl : l.length <= 1000000) (hM : M.length <= 4000000) : Fn Tryz.prog 134 [mnA m, iv k, itsA l, yf M] (.tup [itsA (apV m k l M), iv (apE m k l M)]) := by
 by_cases hE : segE m k l = 0
 ·by_cases hX : (segV m k l).length = M.length
  ·by_cases hO : okJ (unT m k) k (segV m k l) l M M.length = false
   ·obtain ⟨e1, e2⟩ := zug hE (.inr hO); rw [e1, e2];exact zga m k l M h0 h1 hl hM hE (by simp; omega) (hok := hO) (hN := ziZ m k l) (hMS := by omega)
   ·obtain ⟨e1, e2⟩ := zxI hE (fun h => h.elim (fun g => g hX) hO); rw [e1, e2];exact zgb m k l M h0 h1 hl hM hE (by simp; omega) (hok := by simpa using hO) (hN := ziZ m k l) (hMS := by omega)
  ·obtain ⟨e1, e2⟩ := zug hE (.inl hX); rw [e1, e2];exact zf9 m k l M h0 h1 hl hM hE (by simp; omega)
 ·obtain ⟨e1, e2⟩ := zxH (M := M) hE; rw [e1, e2];exact zf8 m k l M h0 h1 hl hM hE
end
section
def wnL (s : Sgm) : List Int :=
 if s.Free = true then [1, 0] else if s.Count.N % 3 = 0 then [0] else if s.Count.N % 3 = 1 then [1, 2] else if s.Count.N = 2 then [4, 3] else [3, 4]
def chF (s : Sgm) (A : List Int) : Option Int := (wnL s).find? fun c => decide (c ∈ A)
theorem zpp {s : Sgm} {A : List Int} {c : Int} (h : chF s A = some c) : c ∈ A := by
 have := List.find?_some h; simpa using this
theorem zpq (s : Sgm) : ∀ c ∈ wnL s, 0 <= c /\ c <= 4 := by
 intro c h;unfold wnL at h;split at h
 ·simp at h; omega
 ·split at h
  ·simp at h; omega
  ·split at h
   ·simp at h; omega
   ·split at h <;> simp at h <;> omega
theorem zsb {s : Sgm} {A : List Int} {c : Int} (h : chF s A = some c) : 0 <= c /\ c <= 4 := zpq s c (List.mem_of_find?_eq_some h)
def mdJ (u : Tm) (k : Int) (S : List Sgm) (l : List Ite) : Nat -> Option (List Int)
 | 0 => some []
 | n + 1 => match mdJ u k S l n with
  | none => none
  | some M => match chF (S.getD n default) (alK u k S l M n) with
   | none => none
   | some c => some (M ++ [c])
section
variable {u : Tm} {k : Int} {S : List Sgm} {l : List Ite}
theorem znx {n : Nat} {M : List Int} (h : mdJ u k S l n = some M) : mdJ u k S l (n + 1) = match chF (S.getD n default) (alK u k S l M n) with
 | none => none
 | some c => some (M ++ [c]) := by conv => lhs; unfold mdJ
                                   rw [h]
theorem zjT {n : Nat} (h : mdJ u k S l n = none) : ∀ j, mdJ u k S l (n + j) = none
 | 0 => h
 | j + 1 => by
  show mdJ u k S l (n + j + 1) = none;unfold mdJ; rw [zjT h j]
theorem zlz (M M2 : List Int) : ∀ n, n <= M.length -> stK u S l (M ++ M2) n = stK u S l M n
 | 0, _ => rfl
 | n + 1, h => by
  rw [zod, zod, zlz M M2 n (by omega)]
  have : (M ++ M2).getD n 0 = M.getD n 0 := by
   rw [List.getD_eq_getElem?_getD, List.getD_eq_getElem?_getD, List.getElem?_append_left (by omega)]
  rw [this]
theorem zlA (M M2 : List Int) {n : Nat} (h : n <= M.length) : alK u k S l (M ++ M2) n = alK u k S l M n := by
 unfold alK; rw [zlz M M2 n h]
theorem zlB (M M2 : List Int) : ∀ n, n <= M.length -> okJ u k S l (M ++ M2) n = okJ u k S l M n
 | 0, _ => rfl
 | n + 1, h => by
  show (okJ u k S l (M ++ M2) n && decide ((M ++ M2).getD n 0 ∈ alK u k S l (M ++ M2) n)) = (okJ u k S l M n && decide (M.getD n 0 ∈ alK u k S l M n));rw [zlB M M2 n (by omega), zlA M M2 (by omega)]
  have : (M ++ M2).getD n 0 = M.getD n 0 := by
   rw [List.getD_eq_getElem?_getD, List.getD_eq_getElem?_getD, List.getElem?_append_left (by omega)]
  rw [this]
theorem zgP : ∀ {n : Nat} {M : List Int}, mdJ u k S l n = some M -> M.length = n /\ okJ u k S l M n = true /\ ∀ c ∈ M, 0 <= c /\ c <= 4
 | 0, M, h => by
  have : M = [] := by simpa [mdJ] using h.symm
  subst this; exact ⟨rfl, rfl, by simp⟩
 | n + 1, M, h => by
  cases hm : mdJ u k S l n with
  | none => unfold mdJ at h; rw [hm] at h; cases h
  | some M1 =>
   rw [znx hm] at h;obtain ⟨i1, i2, i3⟩ := zgP hm;cases hc : chF (S.getD n default) (alK u k S l M1 n) with
   | none => rw [hc] at h; cases h
   | some c =>
    rw [hc] at h;have : M1 ++ [c] = M := by injection h
    subst this;refine ⟨by simp [i1], ?_, ?_⟩
    ·show (okJ u k S l (M1 ++ [c]) n && decide ((M1 ++ [c]).getD n 0 ∈ alK u k S l (M1 ++ [c]) n)) = true;rw [zlB M1 [c] n (by omega), zlA M1 [c] (by omega), i2]
     have : (M1 ++ [c]).getD n 0 = c := by
      rw [List.getD_eq_getElem?_getD, List.getElem?_append_right (by omega), show n - M1.length = 0 by omega]; rfl
     rw [this, Bool.true_and, decide_eq_true_iff];exact zpp hc
    ·intro x hx;rcases List.mem_append.1 hx with hx | hx
     ·exact i3 x hx
     ·simp at hx; subst hx; exact zsb hc
end
def cuO (m : Mn) (k : Int) (l : List Ite) : Option (List Int) := mdJ (unT m k) k (segV m k l) l (segV m k l).length
def cuE (m : Mn) (k : Int) (l : List Ite) : Int := if segE m k l = 0 then (if (cuO m k l).isSome then 0 else 14) else segE m k l
def cuV (m : Mn) (k : Int) (l : List Ite) : List Int := if cuE m k l = 0 then (cuO m k l).getD [] else []
theorem zrg {m : Mn} {k : Int} {l : List Ite} (h : cuE m k l = 0) : segE m k l = 0 /\ cuO m k l = some (cuV m k l) := by
 have h' := h;unfold cuE at h;split at h
 ·rename_i h0;refine ⟨h0, ?_⟩;unfold cuV; rw [if_pos h'];cases ho : cuO m k l with
  | none => rw [ho] at h; simp at h
  | some M => rfl
 ·exact absurd h (by assumption)
theorem zlC {m : Mn} {k : Int} {l : List Ite} (h : cuE m k l = 0) : apE m k l (cuV m k l) = 0 := by
 obtain ⟨h0, h1⟩ := zrg h;unfold cuO at h1;obtain ⟨i1, i2, i3⟩ := zgP h1;unfold apE;rw [if_pos h0, if_neg];intro hc;rcases hc with hc | hc
 ·exact hc i1.symm
 ·rw [i1, i2] at hc; cases hc
def lvF (m : Mn) : List Int -> List Ite -> List Int -> List Int × List Ite × Int
 | [], l, C => (C, l, 0)
 | k :: r, l, C => if cuE m k l = 0 then lvF m r (apV m k l (cuV m k l)) (C ++ cuV m k l) else ([], [], cuE m k l)
theorem zjU {m : Mn} {L : List Int} {n : Nat} {k : Int} (h : L[n]? = some k) (l : List Ite) (C : List Int) :
 lvF m (L.drop n) l C = if cuE m k l = 0 then lvF m (L.drop (n + 1)) (apV m k l (cuV m k l)) (C ++ cuV m k l) else ([], [], cuE m k l) := by
 have h1 := List.getElem?_eq_some_iff.1 h;rw [List.drop_eq_getElem_cons h1.1, h1.2]; rfl
def leE (m : Mn) (l : List Ite) : Int := if ckM m = 0 then (if ckIE l = 0 then (lvF m (perfL m) l []).2.2 else ckIE l) else ckM m
def leC (m : Mn) (l : List Ite) : List Int := if leE m l = 0 then (lvF m (perfL m) l []).1 else []
def leI (m : Mn) (l : List Ite) : List Ite := if leE m l = 0 then (lvF m (perfL m) l []).2.1 else []
structure Rdg where
 Dots : List Int
 Minor : List Int
 Choices : List Int
 Durs : List Tm
 deriving DecidableEq
def rdgE (r : Rdg) : List AV := [yf r.Dots, yf r.Minor, yf r.Choices, tmsA r.Durs]
abbrev rdgA (r : Rdg) : AV := .agg (rdgE r)
end
end Go.Rse
