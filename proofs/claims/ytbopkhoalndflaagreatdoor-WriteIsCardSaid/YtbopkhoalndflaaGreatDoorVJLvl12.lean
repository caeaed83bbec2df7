/-
  Walks.
-/
import Derived.Test.YtbopkhoalndflaaGreatDoorVJLvl10
set_option linter.all false
namespace Go.Rse
open Go Go.Proofs Go.Proofs.Tryz
section
attribute [local irreducible] Pur yu yq Ex X Fn Imp LeV LeB FnO It yD FnW FnOW
def zgW {u : Tm} {k : Int} {S : List Sgm} {l : List Ite} {M : List Int} {n : Nat} : ∀ {n' : Nat}, okJ u k S l M n' = true -> n <= n' -> okJ u k S l M n = true
 | 0, h, V => by have : n = 0 := by omega
                 subst this; exact h
 | n' + 1, h, V => by
  by_cases e : n = n' + 1
  ·subst e; exact h
  ·have Z : (okJ u k S l M n' && decide (M.getD n' 0 ∈ alK u k S l M n')) = true := h;simp only [j7] at Z;exact zgW Z.1 (by omega)
def zlu {u : Tm} {k : Int} {S : List Sgm} {l : List Ite} {M : List Int} {n : Nat} {s : Sgm} {c : Int} (hs : S[n]? = some s) (Z : M[n]? = some c) : okJ u k S l M (n + 1) = (okJ u k S l M n && decide (c ∈ alQ u k (stK u S l M n).1 (stK u S l M n).2 s)) := by
 have e1 : S.getD n default = s := by rw [jA, hs]; rfl
 have e2 : M.getD n 0 = c := by rw [jA, Z]; rfl
 show (okJ u k S l M n && decide (M.getD n 0 ∈ alK u k S l M n)) = _;unfold alK; rw [e1, e2]
def zlv {u : Tm} {S : List Sgm} {l : List Ite} {M : List Int} {n : Nat} {s : Sgm} {c : Int} (hs : S[n]? = some s) (Z : M[n]? = some c) : chN u s c (stK u S l M n).1 = (stK u S l M (n + 1)).1 /\ chL s c (stK u S l M n).2 = (stK u S l M (n + 1)).2 := by
 have e1 : S.getD n default = s := by rw [jA, hs]; rfl
 have e2 : M.getD n 0 = c := by rw [jA, Z]; rfl
 rw [znM, e1, e2]; exact ⟨rfl, rfl⟩
def zm8 (u : Tm) (k : Int) (l : List Ite) (L : List (Int × Bool)) (s : Sgm) : (alQ u k l L s).length <= 5 := by
 unfold alQ alR;simp only [jJ];have h : ∀ (p : Prop) [Decidable p] (x : Int), (if p then [x] else []).length <= 1 := fun p _ x => by split <;> simp
 have Z := h (s.Count.N % 3 = 0 \/ s.Free = true) 0;have V := h (s.Count.N % 3 = 1 /\ s.Count.D = 1 /\ poQ u k l L s = true) 1;have U := h (s.Count.N % 3 = 1 /\ s.Free = false /\ anQ u k l s = true) 2;have T := h (s.Count.N % 3 = 2 /\ s.Free = false /\ poQ u k l L s = true /\ anQ u k l s = true) 3;have Q := h (s.Count.N % 3 = 2 /\ s.Free = false /\ atQ u k l s = true) 4;omega
def zky {n n' : Nat} {s : Sgm} (h : SgB n s) (e : n' = n) : SgB n' s := e ▸ h
attribute [local irreducible] stK okJ alQ chN chL
set_option maxHeartbeats 4000000 in
def zbu (u : Tm) (k : Int) (S : List Sgm) (l : List Ite) (M : List Int) (hS : SgsOk k l S) (hN : ∀ s ∈ S, 0 <= s.Count.N) (hM : M.length <= S.length) (hl : l.length <= 1000000) (x1 : S.length <= 4000000) (k0 : -9223372036854775808 <= k) (k1 : k + 1 <= 9223372036854775807) (hok : okJ u k S l M M.length = true) : FnO prog 301 [.ptr 2000000 0 0 0, smsA S, yc M] [(2000000, .box [.own 2000001, iv k, iv u.N, iv u.D, .mp 2000002] 335), (2000001, .row itE (l) 183 12), (2000002, .mpb (fun i : Int => .int .i64 i) AV.bool ([]))] [2000000, 2000001, 2000002] (.bool true) [(2000000, .box [.own 2000001, iv k, iv u.N, iv u.D, .mp 2000002] 335), (2000001, .row itE ((stK u S l M M.length).1) 183 12), (2000002, .mpb (fun i : Int => .int .i64 i) AV.bool ((stK u S l M M.length).2))] := by
 have H : (stK u S l M 0).1 = l := by unfold stK; rfl
 have G : (stK u S l M 0).2 = [] := by unfold stK; rfl
 have x0 := H.symm;have T := G.symm;refine kI (ts := [(0, .ptr 2000000 0 0 0), (1, smsA S), (2, yc M)]) (rv := [.tmp 6]) (n := 36) (cs := [.ptr 2000000 0 0 0, .own 2000001, .mp 2000002]) (by kernel_rfl) func301 rfl ntmps301 rfl rfl (by simp) rfl rfl rfl rfl (fun g w d vs => ?_);apply ye;refine ya ?_;apply yE;refine ya ?_;refine ya (hs := zkb rfl) ?_;refine yh ?_;apply yg;apply ye;refine yy ?_;apply xS;refine zq (fun n => [(0, .ptr 2000000 0 0 0), (1, smsA S), (7, .mth 332 2000000 0 0 0), (12, yc M), (13, iv M.length), (14, iv (n : Int))]) (fun n => [(1000001, .hold vs [.ptr 2000000 0 0 0, .own 2000001, .mp 2000002]), (2000000, .box [.own 2000001, iv k, iv u.N, iv u.D, .mp 2000002] 335), (2000001, .row itE ((stK u S l M n).1) 183 12), (2000002, .mpb (fun i : Int => .int .i64 i) AV.bool ((stK u S l M n).2))]) M.length (fun n hk => ?_) (h0 := by exact kL (by (repeat' (first | exact True.intro | (refine And.intro ⟨_, rfl, ?_⟩ ?_; (first | exact kB _ | exact kS _ | exact kA _ | (refine xR ?_; simp; done) | (refine xR ?_; congr 1; omega) | (refine xR ?_; dsimp only; congr 1; omega) | (refine xR (j5 (AV.int _) ?_); omega) | exact kC _ | exact kM (by assumption) | (refine kH ?_; congr 1; omega) | (refine kH ?_; congr 1; simp only [cond_true, cond_false]; omega)))))) (by (repeat' (first | exact True.intro | (refine And.intro ⟨_, rfl, ?_⟩ ?_; (first | exact kA _ | exact kM (by assumption) | exact kH (j5 (fun z => Blk.mpb (fun i : Int => .int .i64 i) AV.bool z) T) | exact kH (j5 (fun z => Blk.mpb (fun i : Int => .int .i64 i) AV.bool z) Z)))))));refine gd ?_ ?_<;>intro w2
 ·obtain ⟨s, hs⟩ : ∃ s, S[n]? = some s := ⟨_, lgg (by omega)⟩;have v9 : S[(n : Int).toNat]? = some s := by simpa using hs
  obtain ⟨c, E⟩ : ∃ c, M[n]? = some c := ⟨_, lgg (by omega)⟩;have Q : M[(n : Int).toNat]? = some c := by simpa using E
  have xT := zb2 u S l M n;have J := hS.all s (j6 hs);have I := zky J.b xT;have V := zlv (u := u) (l := l) hs E;have x2 := V.1;have Z := V.2;have x4 := hN s (j6 hs);have v8 := zm8 u k (stK u S l M n).1 (stK u S l M n).2 s;have x3 := zlu (u := u) (k := k) (l := l) hs E
  have U : c ∈ alQ u k (stK u S l M n).1 (stK u S l M n).2 s := by
   have h := zgW hok (show n + 1 <= M.length by omega);rw [x3] at h; simpa using (vJ.1 h).2
  refine gq ?_;refine kF (zdX (ι := Nat) (stF := fun b => ⟨[(19, .ept (fun _ : Unit => [.sl itE (stK u S l M n).1, iv k, iv u.N, iv u.D, .val (.map (some b))]) () 0), (23, smA s)], []⟩) 24 (fun g a w hr => zq2 (k := 2000002) rfl (fun b => (xP (k := 2000001) rfl).trans ((yZ (k := 2000000) rfl rfl).trans yd)) (fun _ => rfl) (fun _ => rfl) hr) (fun b => za1 (stK u S l M n).1 k u b (stK u S l M n).2 s I (by omega) k0 k1 x4)) rfl rfl ?_;refine kG (st' := ⟨[(0, .ptr 2000000 0 0 0), (1, smsA S), (7, .mth 332 2000000 0 0 0), (8, iv (n : Int)), (9, iv c), (12, yc M), (13, iv M.length), (14, iv (n : Int)), (24, yc (alQ u k (stK u S l M n).1 (stK u S l M n).2 s))], [(1000001, .hold vs [.ptr 2000000 0 0 0, .own 2000001, .mp 2000002]), (2000000, .box [.own 2000001, iv k, iv u.N, iv u.D, .mp 2000002] 335), (2000001, .row itE ((stK u S l M n).1) 183 12), (2000002, .mpb (fun i : Int => .int .i64 i) AV.bool ((stK u S l M n).2))]⟩) ((xP (k := 24) rfl).trans yd) ?_;refine gc (yS (alQ u k (stK u S l M n).1 (stK u S l M n).2 s) c (by omega)) ?_;refine gd ?_ ?_<;>intro Q
  ·exact absurd U Q
  refine gq ?_;refine zaO (zuz [(2000000, 2000000), (2000001, 2000001), (2000002, 2000002)] (zcB (stK u S l M n).1 k u (stK u S l M n).2 s c I (zgT J.ft U) (by omega))) ?_;refine gq ?_;refine yw (n + 1) (hI := kL (by (repeat' (first | exact True.intro | (refine And.intro ⟨_, rfl, ?_⟩ ?_; (first | exact kB _ | exact kS _ | exact kA _ | (refine xR ?_; simp; done) | (refine xR ?_; congr 1; omega) | (refine xR ?_; dsimp only; congr 1; omega) | (refine xR (j5 (AV.int _) ?_); omega) | exact kC _ | exact kM (by assumption) | (refine kH ?_; congr 1; omega) | (refine kH ?_; congr 1; simp only [cond_true, cond_false]; omega)))))) (by (repeat' (first | exact True.intro | (refine And.intro ⟨_, rfl, ?_⟩ ?_; (first | exact kA _ | exact kM (by assumption) | exact kH (j5 (fun z => Blk.mpb (fun i : Int => .int .i64 i) AV.bool z) T) | exact kH (j5 (fun z => Blk.mpb (fun i : Int => .int .i64 i) AV.bool z) Z)))))))
 ·have hn : n = M.length := by omega
  subst hn;apply k8;apply ye;refine yh ?_;refine xU ?_;refine zka.mk [(6, .bool true)] [] (.inr rfl) (.one (.tmp rfl (xR ?_)));all_goals rfl
set_option maxHeartbeats 4000000 in
def zd4 (u : Tm) (k : Int) (S : List Sgm) (l : List Ite) (M : List Int) (hS : SgsOk k l S) (hN : ∀ s ∈ S, 0 <= s.Count.N) (hM : M.length <= S.length) (hl : l.length <= 1000000) (x1 : S.length <= 4000000) (k0 : -9223372036854775808 <= k) (k1 : k + 1 <= 9223372036854775807) (hok : okJ u k S l M M.length = false) : FnO prog 301 [.ptr 2000000 0 0 0, smsA S, yc M] [(2000000, .box [.own 2000001, iv k, iv u.N, iv u.D, .mp 2000002] 335), (2000001, .row itE (l) 183 12), (2000002, .mpb (fun i : Int => .int .i64 i) AV.bool ([]))] [] (.bool false) [] := by
 have G : (stK u S l M 0).1 = l := by unfold stK; rfl
 have E : (stK u S l M 0).2 = [] := by unfold stK; rfl
 have x0 := G.symm;have T := E.symm;refine kI (ts := [(0, .ptr 2000000 0 0 0), (1, smsA S), (2, yc M)]) (rv := [.tmp 6]) (n := 36) (cs := []) (by kernel_rfl) func301 rfl ntmps301 rfl rfl (by simp) rfl rfl rfl rfl (fun g w d vs => ?_);apply ye;refine ya ?_;apply yE;refine ya ?_;refine ya (hs := zkb rfl) ?_;refine yh ?_;apply yg;apply ye;refine yy ?_;apply xS;refine zX (fun n => [(0, .ptr 2000000 0 0 0), (1, smsA S), (7, .mth 332 2000000 0 0 0), (12, yc M), (13, iv M.length), (14, iv (n : Int))]) (fun n => [(1000001, .hold vs []), (2000000, .box [.own 2000001, iv k, iv u.N, iv u.D, .mp 2000002] 335), (2000001, .row itE ((stK u S l M n).1) 183 12), (2000002, .mpb (fun i : Int => .int .i64 i) AV.bool ((stK u S l M n).2))]) (fun n => n <= M.length /\ okJ u k S l M n = true) M.length (fun n hk => ?_) (hJ := by exact ⟨by omega, by unfold okJ; rfl⟩) (h0 := by exact kL (by (repeat' (first | exact True.intro | (refine And.intro ⟨_, rfl, ?_⟩ ?_; (first | exact kB _ | exact kS _ | exact kA _ | (refine xR ?_; simp; done) | (refine xR ?_; congr 1; omega) | (refine xR ?_; dsimp only; congr 1; omega) | (refine xR (j5 (AV.int _) ?_); omega) | exact kC _ | exact kM (by assumption) | (refine kH ?_; congr 1; omega) | (refine kH ?_; congr 1; simp only [cond_true, cond_false]; omega)))))) (by (repeat' (first | exact True.intro | (refine And.intro ⟨_, rfl, ?_⟩ ?_; (first | exact kA _ | exact kM (by assumption) | exact kH (j5 (fun z => Blk.mpb (fun i : Int => .int .i64 i) AV.bool z) T) | exact kH (j5 (fun z => Blk.mpb (fun i : Int => .int .i64 i) AV.bool z) Z)))))));obtain ⟨w2, Q⟩ := hk;refine gd ?_ ?_<;>intro v9
 ·obtain ⟨s, hs⟩ : ∃ s, S[n]? = some s := ⟨_, lgg (by omega)⟩;have v8 : S[(n : Int).toNat]? = some s := by simpa using hs
  obtain ⟨c, hc⟩ : ∃ c, M[n]? = some c := ⟨_, lgg (by omega)⟩;have J : M[(n : Int).toNat]? = some c := by simpa using hc
  have xT := zb2 u S l M n;have I := hS.all s (j6 hs);have H := zky I.b xT;have V := zlv (u := u) (l := l) hs hc;have x2 := V.1;have Z := V.2;have x4 := hN s (j6 hs);have v5 := zm8 u k (stK u S l M n).1 (stK u S l M n).2 s;have x3 := zlu (u := u) (k := k) (l := l) hs hc;refine gq ?_;refine kF (zdX (ι := Nat) (stF := fun b => ⟨[(19, .ept (fun _ : Unit => [.sl itE (stK u S l M n).1, iv k, iv u.N, iv u.D, .val (.map (some b))]) () 0), (23, smA s)], []⟩) 24 (fun g a w hr => zq2 (k := 2000002) rfl (fun b => (xP (k := 2000001) rfl).trans ((yZ (k := 2000000) rfl rfl).trans yd)) (fun _ => rfl) (fun _ => rfl) hr) (fun b => za1 (stK u S l M n).1 k u b (stK u S l M n).2 s H (by omega) k0 k1 x4)) rfl rfl ?_;refine kG (st' := ⟨[(0, .ptr 2000000 0 0 0), (1, smsA S), (7, .mth 332 2000000 0 0 0), (8, iv (n : Int)), (9, iv c), (12, yc M), (13, iv M.length), (14, iv (n : Int)), (24, yc (alQ u k (stK u S l M n).1 (stK u S l M n).2 s))], [(1000001, .hold vs []), (2000000, .box [.own 2000001, iv k, iv u.N, iv u.D, .mp 2000002] 335), (2000001, .row itE ((stK u S l M n).1) 183 12), (2000002, .mpb (fun i : Int => .int .i64 i) AV.bool ((stK u S l M n).2))]⟩) ((xP (k := 24) rfl).trans yd) ?_;refine gc (yS (alQ u k (stK u S l M n).1 (stK u S l M n).2 s) c (by omega)) ?_;refine gd ?_ ?_<;>intro J
  ·apply ye;refine yh ?_;refine xU ?_;refine zka.mk [(6, .bool false)] [(2000000, .box [.own 2000001, iv k, iv u.N, iv u.D, .mp 2000002] 335), (2000001, .row itE ((stK u S l M n).1) 183 12), (2000002, .mpb (fun i : Int => .int .i64 i) AV.bool ((stK u S l M n).2))] (.inr rfl) (.one (.tmp rfl (xR ?_)));all_goals rfl
  have U : c ∈ alQ u k (stK u S l M n).1 (stK u S l M n).2 s := J;refine gq ?_;refine zaO (zuz [(2000000, 2000000), (2000001, 2000001), (2000002, 2000002)] (zcB (stK u S l M n).1 k u (stK u S l M n).2 s c H (zgT I.ft U) (by omega))) ?_;refine gq ?_;refine yw (n + 1) (hJ := by exact ⟨by omega, by rw [x3, Q, jI U]; rfl⟩) (hI := kL (by (repeat' (first | exact True.intro | (refine And.intro ⟨_, rfl, ?_⟩ ?_; (first | exact kB _ | exact kS _ | exact kA _ | (refine xR ?_; simp; done) | (refine xR ?_; congr 1; omega) | (refine xR ?_; dsimp only; congr 1; omega) | (refine xR (j5 (AV.int _) ?_); omega) | exact kC _ | exact kM (by assumption) | (refine kH ?_; congr 1; omega) | (refine kH ?_; congr 1; simp only [cond_true, cond_false]; omega)))))) (by (repeat' (first | exact True.intro | (refine And.intro ⟨_, rfl, ?_⟩ ?_; (first | exact kA _ | exact kM (by assumption) | exact kH (j5 (fun z => Blk.mpb (fun i : Int => .int .i64 i) AV.bool z) T) | exact kH (j5 (fun z => Blk.mpb (fun i : Int => .int .i64 i) AV.bool z) Z)))))))
 ·have hn : n = M.length := by omega
  subst hn;exact absurd Q (by rw [hok]; decide)
end
section
attribute [local irreducible] Pur yu yq Ex X Fn Imp LeV LeB FnO It yD FnW FnOW
def zaJ (m : Mn) (k : Int) (l : List Ite) : (segV m k l).length <= 2 * l.length + 2 := by
 unfold segV;split
 ·rw [jU, zev, zeR]; have := zeZ k l l.length; omega
 ·simp
attribute [local irreducible] stK okJ alQ chN chL segV segE apE apV unT
def zhu (m : Mn) (k : Int) (l : List Ite) (M : List Int) (h0 : -9223372036854775808 <= k) (V : k <= 9223372036854775807) (hl : l.length <= 1000000) (U : M.length <= 4000000) (hE : ¬ segE m k l = 0) : Fn prog 256 [mnA m, iv k, itsA l, yc M] (.tup [itsA [], iv (segE m k l)]) := by
 refine xV func256 ntmps256 (fun g w d => ?_);refine gc (zgV m k l h0 V hl hE) ?_;refine gd ?_ ?_<;>intro Z
 ·apply ye;refine yy ?_;refine xU ?_;refine xQ (yd (ts := [(8, itsA []), (9, iv (segE m k l))]) (hs := [])) ?_;refine yj ?_ ?_;all_goals exact zR
 exact absurd Z hE
def zhv (m : Mn) (k : Int) (l : List Ite) (M : List Int) (h0 : -9223372036854775808 <= k) (U : k <= 9223372036854775807) (hl : l.length <= 1000000) (J : M.length <= 4000000) (hE : segE m k l = 0) (hX : (!decide ((M.length : Int) = ((segV m k l).length : Int))) = true) : Fn prog 256 [mnA m, iv k, itsA l, yc M] (.tup [itsA [], iv 2]) := by
 have T := zaJ m k l;have I := zhi (zdq hE).1;have Q := zeg hE;refine xV func256 ntmps256 (fun g w d => ?_);refine gq ?_;refine zV [(36, 2000000), (30, 2000001), (34, 2000002)] (zaS m k l h0 U hl hE) ?_;refine gd ?_ ?_<;>intro V
 ·exact absurd rfl V
 apply yl;iterate 2 apply yg
 have N : ((!decide ((M.length : Int) = ((segV m k l).length : Int))) == false) = false := by rw [hX]; rfl
 ·apply yi;iterate 6 refine ya ?_
  iterate 5 refine zbO ?_
  refine gd ?_ ?_<;>intro Z
  ·apply ye;refine yL ?_;refine xU ?_;refine xQ (yd (ts := [(8, itsA []), (9, iv 2)]) (hs := [])) ?_;refine yj ?_ ?_;all_goals exact zR
  first | (exact absurd Z.2 (by decide)) | (cases Z; done) | (exact absurd Z (by simp [hX])) | (simp [hX] at Z; done) | (rcases Z with h | h <;> first | (cases h; done) | (exact absurd h (by simpa using hX)) | (simp [hX] at h; done) | (exact absurd h (by decide)))
def zhw (m : Mn) (k : Int) (l : List Ite) (M : List Int) (h0 : -9223372036854775808 <= k) (Q : k <= 9223372036854775807) (hl : l.length <= 1000000) (I : M.length <= 4000000) (hE : segE m k l = 0) (hX : (!decide ((M.length : Int) = ((segV m k l).length : Int))) = false) (hok : okJ (unT m k) k (segV m k l) l M M.length = false) (hN : ∀ s ∈ segV m k l, 0 <= s.Count.N) (hMS : M.length <= (segV m k l).length) : Fn prog 256 [mnA m, iv k, itsA l, yc M] (.tup [itsA [], iv 2]) := by
 have J := zaJ m k l;have H := zhi (zdq hE).1;have V := zeg hE;refine xV func256 ntmps256 (fun g w d => ?_);refine gq ?_;refine zV [(36, 2000000), (30, 2000001), (34, 2000002)] (zaS m k l h0 Q hl hE) ?_;refine gd ?_ ?_<;>intro U
 ·exact absurd rfl U
 apply yl;iterate 2 apply yg
 have T : ((!decide ((M.length : Int) = ((segV m k l).length : Int))) == false) = true := by rw [hX]; rfl
 ·apply yi;iterate 6 refine ya ?_
  iterate 3 refine zac ?_
  refine yR rfl rfl T ?_;refine zV [(2000000, 2000000), (2000001, 2000001), (2000002, 2000002)] (zd4 (unT m k) k (segV m k l) l M V hN hMS hl (by omega) (by omega) (by omega) hok) ?_;refine zac ?_;refine gd ?_ ?_<;>intro Z
  ·apply ye;refine yL ?_;refine xU ?_;refine xQ (yd (ts := [(8, itsA []), (9, iv 2)]) (hs := [])) ?_;refine yj ?_ ?_;all_goals exact zR
  first | (exact absurd Z.2 (by decide)) | (cases Z; done) | (exact absurd Z (by simp [hX])) | (simp [hX] at Z; done) | (rcases Z with h | h <;> first | (cases h; done) | (exact absurd h (by simpa using hX)) | (simp [hX] at h; done) | (exact absurd h (by decide)))
set_option maxHeartbeats 2000000 in
def zhx (m : Mn) (k : Int) (l : List Ite) (M : List Int) (h0 : -9223372036854775808 <= k) (Q : k <= 9223372036854775807) (hl : l.length <= 1000000) (H : M.length <= 4000000) (hE : segE m k l = 0) (hX : (!decide ((M.length : Int) = ((segV m k l).length : Int))) = false) (hok : okJ (unT m k) k (segV m k l) l M M.length = true) (hN : ∀ s ∈ segV m k l, 0 <= s.Count.N) (hMS : M.length <= (segV m k l).length) : Fn prog 256 [mnA m, iv k, itsA l, yc M] (.tup [itsA (stK (unT m k) (segV m k l) l M M.length).1, iv 0]) := by
 have J := zaJ m k l;have G := zhi (zdq hE).1;have V := zeg hE;refine xV func256 ntmps256 (fun g w d => ?_);refine gq ?_;refine zV [(36, 2000000), (30, 2000001), (34, 2000002)] (zaS m k l h0 Q hl hE) ?_;refine gd ?_ ?_<;>intro U
 ·exact absurd rfl U
 apply yl;iterate 2 apply yg
 have T : ((!decide ((M.length : Int) = ((segV m k l).length : Int))) == false) = true := by rw [hX]; rfl
 ·apply yi;iterate 6 refine ya ?_
  iterate 3 refine zac ?_
  refine yR rfl rfl T ?_;refine zV [(2000000, 2000000), (2000001, 2000001), (2000002, 2000002)] (zbu (unT m k) k (segV m k l) l M V hN hMS hl (by omega) (by omega) (by omega) hok) ?_;refine zac ?_;refine gd ?_ ?_<;>intro Z
  ·first | (exact absurd Z.2 (by decide)) | (cases Z; done) | (exact absurd Z (by simp [hX])) | (simp [hX] at Z; done) | (rcases Z with h | h <;> first | (cases h; done) | (exact absurd h (by simpa using hX)) | (simp [hX] at h; done) | (exact absurd h (by decide)))
  apply yl;apply ye;refine ya ?_;refine ya ?_ (hs := by exact yf rfl);iterate 2 refine ya ?_
  refine yy ?_;refine xU ?_;refine xQ (xP (k := 2000001) rfl) ?_;refine yj ?_ ?_;all_goals (first | exact j5 (fun z => yc z) I | rfl)
end
end Go.Rse
