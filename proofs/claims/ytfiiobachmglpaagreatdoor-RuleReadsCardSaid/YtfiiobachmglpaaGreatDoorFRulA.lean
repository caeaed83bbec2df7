/-
  Choices at a level, one by one.
  All levels, one by one.
  Walks: the table of the rule and the zaH for a segment.
  Walks: the choices of a level by the rule, and by definition.
  Walks: all levels by definition.
-/
import Derived.Test.YtfiiobachmglpaaGreatDoorFLvlD
import Derived.Test.YtfiiobachmglpaaGreatDoorFLevA
import Derived.Test.YtfiiobachmglpaaGreatDoorFLogD
set_option linter.unusedSimpArgs false
set_option linter.unusedVariables false
namespace Go.Rse
open Go Go.Proofs
def muF (m : Mn) (k : Int) (l : List Ite) (n : Nat) : List Int := (mdJ (unT m k) k (segV m k l) l n).getD []
def muI (m : Mn) (k : Int) (l : List Ite) (n : Nat) : Bool := (mdJ (unT m k) k (segV m k l) l n).isSome
section
variable {m : Mn} {k : Int} {l : List Ite} {n : Nat}
theorem zt3 : muF m k l 0 = [] := rfl
theorem zp4 : muI m k l 0 = true := rfl
theorem zfM (h : muI m k l n = true) : mdJ (unT m k) k (segV m k l) l n = some (muF m k l n) := by
 unfold muI at h;obtain ⟨M, e⟩ := Option.isSome_iff_exists.1 h;unfold muF; rw [e]; rfl
theorem zhC (h : muI m k l n = true) : (muF m k l n).length = n := (zg3 (zfM h)).1
theorem zp5 (h : muI m k l n = true) : okJ (unT m k) k (segV m k l) l (muF m k l n) (muF m k l n).length = true := by
 rw [zhC h]; exact (zg3 (zfM h)).2.1
abbrev akF (m : Mn) (k : Int) (l : List Ite) (n : Nat) : List Int := alK (unT m k) k (segV m k l) l (muF m k l n) (muF m k l n).length
theorem zsR {s : Sgm} {c : Int} (h : muI m k l n = true) (hs : (segV m k l)[n]? = some s) (hc : chF s (akF m k l n) = some c) : muI m k l (n + 1) = true /\ muF m k l n ++ [c] = muF m k l (n + 1) := by
 have h1 := zmY (zfM h);unfold akF at hc;rw [zhC h] at hc;rw [show (segV m k l).getD n default = s by rw [List.getD_eq_getElem?_getD, hs]; rfl, hc] at h1;unfold muI; rw [h1];refine ⟨rfl, ?_⟩;conv => rhs; unfold muF
 rw [h1]; rfl
theorem zsS (h : ¬ segE m k l = 0) : cuE m k l = segE m k l /\ cuV m k l = [] := by
 have : cuE m k l = segE m k l := by unfold cuE; rw [if_neg h]
 refine ⟨this, ?_⟩; unfold cuV; rw [this, if_neg h]
theorem zsT {s : Sgm} (h0 : segE m k l = 0) (h : muI m k l n = true) (hs : (segV m k l)[n]? = some s) (hc : chF s (akF m k l n) = none) : cuE m k l = 14 /\ cuV m k l = [] := by
 have h1 := zmY (zfM h);unfold akF at hc;rw [zhC h] at hc;rw [show (segV m k l).getD n default = s by rw [List.getD_eq_getElem?_getD, hs]; rfl, hc] at h1;have hl := (List.getElem?_eq_some_iff.1 hs).1
 have h2 : cuO m k l = none := by
  unfold cuO;have := zjK h1 ((segV m k l).length - (n + 1))
  rwa [show n + 1 + ((segV m k l).length - (n + 1)) = (segV m k l).length by omega] at this
 have : cuE m k l = 14 := by unfold cuE; rw [if_pos h0, h2]; rfl
 refine ⟨this, ?_⟩; unfold cuV; rw [this]; rfl
theorem znX (h0 : segE m k l = 0) (h : muI m k l n = true) (hn : n = (segV m k l).length) : cuE m k l = 0 /\ muF m k l n = cuV m k l := by
 have h2 : cuO m k l = some (muF m k l n) := by unfold cuO; rw [← hn]; exact zfM h
 have : cuE m k l = 0 := by unfold cuE; rw [if_pos h0, h2]; rfl
 refine ⟨this, ?_⟩; unfold cuV; rw [this, h2]; rfl
end
theorem zlZ (u : Tm) (k : Int) (S : List Sgm) (l : List Ite) (M : List Int) (n : Nat) : (alK u k S l M n).length <= 5 := by
 unfold alK alQ alR;simp only [List.length_append];have h : ∀ (p : Prop) [Decidable p] (x : Int), (if p then [x] else []).length <= 1 := fun p _ x => by split <;> simp
 have a1 := h;refine Nat.le_trans (Nat.add_le_add (Nat.add_le_add (Nat.add_le_add (Nat.add_le_add (h _ _) (h _ _)) (h _ _)) (h _ _)) (h _ _)) (by omega)
def wdF (L A : List Int) (i : Nat) : Int := ((L.drop (L.length - i)).find? fun c => decide (c ∈ A)).getD (-1)
theorem zt0 (L A : List Int) : wdF L A 0 = -1 := by unfold wdF; rw [Nat.sub_zero, List.drop_length]; rfl
theorem zt1 {L A : List Int} {i : Nat} {x : Int} (hi : i < L.length) (h : L[L.length - 1 - i]? = some x) : wdF L A (i + 1) = if x ∈ A then x else wdF L A i := by
 have h1 := List.getElem?_eq_some_iff.1 h
 have e : L.drop (L.length - (i + 1)) = x :: L.drop (L.length - i) := by
  rw [show L.length - (i + 1) = L.length - 1 - i by omega, List.drop_eq_getElem_cons h1.1, h1.2, show L.length - 1 - i + 1 = L.length - i by omega]
 unfold wdF; rw [e];by_cases hx : x ∈ A
 ·rw [if_pos hx, List.find?_cons_of_pos (by simpa using hx)]; rfl
 ·rw [if_neg hx, List.find?_cons_of_neg (by simpa using hx)]
theorem zrk {s : Sgm} {A : List Int} {i : Nat} (hi : i = (wnL s).length) : wdF (wnL s) A i = (chF s A).getD (-1) := by
 unfold wdF chF; rw [hi, Nat.sub_self]; rfl
theorem zrl (s : Sgm) : (wnL s).length <= 2 := by
 unfold wnL; split <;> try split
 all_goals (try split)
 all_goals (try split)
 all_goals simp
end Go.Rse
namespace Go.Rse
open Go Go.Proofs
def lvN (m : Mn) (L : List Int) (l : List Ite) : Nat -> List Int × List Ite
 | 0 => ([], l)
 | n + 1 => ((lvN m L l n).1 ++ cuV m (L.getD n 0) (lvN m L l n).2, apV m (L.getD n 0) (lvN m L l n).2 (cuV m (L.getD n 0) (lvN m L l n).2))
structure LvJ (m : Mn) (L : List Int) (l : List Ite) (n : Nat) : Prop where
 le : n <= L.length
 go : lvF m L l [] = lvF m (L.drop n) (lvN m L l n).2 (lvN m L l n).1
 len : (lvN m L l n).2.length = l.length
 cho : (lvN m L l n).1.length <= n * (2 * l.length + 2)
theorem znY (m : Mn) (L : List Int) (l : List Ite) : LvJ m L l 0 := ⟨by omega, rfl, rfl, by simp [lvN]⟩
theorem zgU {m : Mn} {k : Int} {l : List Ite} : (cuV m k l).length <= 2 * l.length + 2 := by
 by_cases h : cuE m k l = 0
 ·obtain ⟨h0, h1⟩ := zpR h;unfold cuO at h1;have := (zg3 h1).1;have := zaz m k l;omega
 ·unfold cuV; rw [if_neg h]; simp
theorem zl0 {m : Mn} {k : Int} {l : List Ite} {M : List Int} (h : apE m k l M = 0) : (apV m k l M).length = l.length := by
 unfold apV; rw [if_pos h]; exact zbv _ _ _ _ _
theorem zjk {m : Mn} {L : List Int} {l : List Ite} {n : Nat} {k : Int} (hk : L[n]? = some k) : (lvN m L l n).1 ++ cuV m k (lvN m L l n).2 = (lvN m L l (n + 1)).1 /\ apV m k (lvN m L l n).2 (cuV m k (lvN m L l n).2) = (lvN m L l (n + 1)).2 := by
 have e : L.getD n 0 = k := by rw [List.getD_eq_getElem?_getD, hk]; rfl
 show _ = ((lvN m L l n).1 ++ cuV m (L.getD n 0) (lvN m L l n).2) /\ _ = apV m (L.getD n 0) (lvN m L l n).2 (cuV m (L.getD n 0) (lvN m L l n).2);rw [e]; exact ⟨rfl, rfl⟩
theorem LvJ.s {m : Mn} {L : List Int} {l : List Ite} {n : Nat} {k : Int} (h : LvJ m L l n) (hk : L[n]? = some k) (he : cuE m k (lvN m L l n).2 = 0) : LvJ m L l (n + 1) := by
 obtain ⟨e1, e2⟩ := zjk (m := m) (l := l) hk;have hlt := (List.getElem?_eq_some_iff.1 hk).1;refine ⟨by omega, ?_, ?_, ?_⟩
 ·rw [h.go, zjL hk, if_pos he, e1, e2]
 ·rw [← e2, zl0 (zld he), h.len]
 ·rw [← e1, List.length_append, Nat.add_mul, Nat.one_mul];have := h.cho;have := zgU (m := m) (k := k) (l := (lvN m L l n).2);rw [h.len] at this;omega
section
variable {m : Mn} {l : List Ite} {n : Nat} {k : Int}
theorem zrm (h : ¬ ckM m = 0) : leE m l = ckM m /\ leC m l = [] /\ leI m l = [] := by
 have : leE m l = ckM m := by unfold leE; rw [if_neg h]
 refine ⟨this, ?_, ?_⟩
 ·unfold leC; rw [this, if_neg h]
 ·unfold leI; rw [this, if_neg h]
theorem zrn (h : ckM m = 0) (h2 : ¬ ckIE l = 0) : leE m l = ckIE l /\ leC m l = [] /\ leI m l = [] := by
 have : leE m l = ckIE l := by unfold leE; rw [if_pos h, if_neg h2]
 refine ⟨this, ?_, ?_⟩
 ·unfold leC; rw [this, if_neg h2]
 ·unfold leI; rw [this, if_neg h2]
theorem zro (h : ckM m = 0) (h2 : ckIE l = 0) (hJ : LvJ m (perfL m) l n) (hk : (perfL m)[n]? = some k) (he : ¬ cuE m k (lvN m (perfL m) l n).2 = 0) : leE m l = cuE m k (lvN m (perfL m) l n).2 /\ leC m l = [] /\ leI m l = [] := by
 have : leE m l = cuE m k (lvN m (perfL m) l n).2 := by unfold leE; rw [if_pos h, if_pos h2, hJ.go, zjL hk, if_neg he]
 refine ⟨this, ?_, ?_⟩
 ·unfold leC; rw [this, if_neg he]
 ·unfold leI; rw [this, if_neg he]
theorem zrp (h : ckM m = 0) (h2 : ckIE l = 0) (hJ : LvJ m (perfL m) l n) (hn : n = (perfL m).length) : leE m l = 0 /\ (lvN m (perfL m) l n).1 = leC m l /\ (lvN m (perfL m) l n).2 = leI m l := by
 have e : lvF m (perfL m) l [] = ((lvN m (perfL m) l n).1, (lvN m (perfL m) l n).2, 0) := by rw [hJ.go, hn, List.drop_length]; rfl
 have : leE m l = 0 := by unfold leE; rw [if_pos h, if_pos h2, e]
 refine ⟨this, ?_, ?_⟩
 ·unfold leC; rw [this, if_pos rfl, e]
 ·unfold leI; rw [this, if_pos rfl, e]
theorem zjl (m : Mn) : (perfL m).length <= 4 := by
 unfold perfL; exact List.length_filter_le _ _
theorem znZ (hk : (perfL m)[n]? = some k) : 1 <= k /\ k <= 4 := by
 have h := List.mem_of_getElem? hk;rw [zf6] at h; exact ⟨h.1, h.2.1⟩
end
end Go.Rse
namespace Go.Rse
open Go Go.Proofs
instance : ZcK Tryz.prog 178 [.nilf, .int .i64 0, .int .i64 0] := ⟨⟨_, ztc, rfl⟩⟩
attribute [local irreducible] Pur yK yM Ex X Fn Imp LeV LeB FnO It yW FnW FnOW
theorem zhD {L A : List Int} {j : Nat} {c : Int} (hj : L[j]? = some c) (hc : c ∈ A) (h : ∀ i : Nat, i < j -> ∀ d, L[i]? = some d -> d ∉ A) : L.find? (fun c => decide (c ∈ A)) = some c := by
 rw [List.find?_eq_some_iff_append];refine ⟨by simpa using hc, L.take j, L.drop (j + 1), ?_, fun a ha => ?_⟩
 ·have hl := (List.getElem?_eq_some_iff.1 hj);rw [← hl.2, List.getElem_cons_drop, List.take_append_drop]
 ·obtain ⟨i, hi, e⟩ := List.getElem_of_mem ha;rw [List.length_take] at hi;have := h i (by omega) a (by rw [← e, List.getElem_take, lgg]);simpa using this
theorem zfN {L A : List Int} (h : ∀ i : Nat, i < L.length -> ∀ d, L[i]? = some d -> d ∉ A) : L.find? (fun c => decide (c ∈ A)) = none := by
 rw [List.find?_eq_none];intro c hc;obtain ⟨i, hi, e⟩ := List.getElem_of_mem hc;have := h i hi c (by rw [← e, lgg]);simpa using this
theorem zfO {L A : List Int} {j : Nat} {c : Int} (hj : L[j]? = some c) (hc : c ∉ A) (h : ∀ i : Nat, i < j -> ∀ d, L[i]? = some d -> d ∉ A) : ∀ i : Nat, i < j + 1 -> ∀ d, L[i]? = some d -> d ∉ A := by
 intro i hi d hd;by_cases e : i = j
 ·subst e; rw [hj] at hd; injection hd with hd; subst hd; exact hc
 ·exact h i (by omega) d hd
theorem zn0 (p : Int -> Bool) (a : Int) : [a, a].find? p = [a].find? p := by
 simp only [List.find?]; cases p a <;> rfl
theorem zbu (s : Sgm) (n : Int) (hN : 0 <= s.Count.N) : Fn Tryz.prog 202 [smA s, .ept (fun _ : Unit => [iv n]) () 0] (.bool (decide (s.Count.N % 3 = n))) := by
 refine Fn.go Tryz.func202 Tryz.ntmps202 (fun g w d => ?_);apply yb;refine yH ?_;refine ya ?_;apply yn;iterate 6 refine ya ?_
 refine ye ?_;refine X.ret ?_;refine ym ?_;all_goals (first | rfl | (simp_all; done))
theorem zcj (n : Int) : Fn Tryz.prog 201 [iv n] (.fn 202 [.ept (fun _ : Unit => [iv n]) () 0]) := by
 refine Fn.go Tryz.func201 Tryz.ntmps201 (fun g w d => ?_);apply yb;refine zeH ?_;refine ya ?_;apply yn;refine yh ?_;refine X.ret ?_;refine yu (y8 (k := 1) rfl rfl) ?_;refine ym ?_;all_goals (first | rfl | (simp_all; done))
theorem zhE (s : Sgm) : Fn Tryz.prog 203 [smA s] (.bool s.Free) := by
 refine Fn.go Tryz.func203 Tryz.ntmps203 (fun g w d => ?_);apply yb;refine yH ?_;refine ya ?_;apply yn;refine yp ?_;refine X.ret ?_;refine ym ?_;all_goals (first | rfl | (simp_all; done))
theorem zhF (s : Sgm) : Fn Tryz.prog 204 [smA s] (.bool (decide (s.Count.N = 2))) := by
 refine Fn.go Tryz.func204 Tryz.ntmps204 (fun g w d => ?_);apply yb;refine yH ?_;refine ya ?_;apply yn;refine y4 ?_;refine X.ret ?_;refine ym ?_;all_goals (first | rfl | (simp_all; done))
theorem zjm  : Fn Tryz.prog 127 [] (.agg [.fn 203 [], iv 1, iv 0, .fn 202 [.ept (fun _ : Unit => [iv 0]) () 0], iv 0, iv 0, .fn 202 [.ept (fun _ : Unit => [iv 1]) () 0], iv 1, iv 2, .fn 204 [], iv 4, iv 3, .fn 202 [.ept (fun _ : Unit => [iv 2]) () 0], iv 3, iv 4]) := by
 refine Fn.go Tryz.func127 Tryz.ntmps127 (fun g w d => ?_);apply yb;refine yJ ?_;apply yn;refine ya ?_;apply yn;iterate 2 refine ya ?_
 refine yr (zcj 0) ?_;iterate 2 refine ya ?_
 refine yr (zcj 1) ?_;iterate 3 refine ya ?_
 refine yr (zcj 2) ?_;iterate 2 refine ya ?_
 refine yi ?_;apply Ex.nil;refine X.ret ?_;refine RetQ.ret (.one (.cellA rfl rfl rfl rfl zp6 (LeV.eq ?_)));all_goals (first | rfl | (simp_all; done))
attribute [local irreducible] chF wnL
set_option maxHeartbeats 2000000 in
theorem zhU (s : Sgm) (A : List Int) (hN : 0 <= s.Count.N) (hA : A.length <= 1000000) : Fn Tryz.prog 65 [smA s, yg A] (.tup [iv ((chF s A).getD 0), .bool (chF s A).isSome]) := by
 refine Fn.go Tryz.func65 Tryz.ntmps65 (fun g w d => ?_);apply yb;refine yH ?_;refine yh ?_;apply yd;apply yb;refine yr zjm ?_;refine ye ?_;apply X.block
 refine y9 (ι := Nat) (fun (n : Nat) => [(1, yg A), (2, .ptr 2 0 0 0), (4, iv 0), (5, .bool false), (10, .agg [.fn 203 [], iv 1, iv 0, .fn 202 [.ept (fun _ : Unit => [iv 0]) () 0], iv 0, iv 0, .fn 202 [.ept (fun _ : Unit => [iv 1]) () 0], iv 1, iv 2, .fn 204 [], iv 4, iv 3, .fn 202 [.ept (fun _ : Unit => [iv 2]) () 0], iv 3, iv 4]), (11, iv (n : Int))]) (fun (n : Nat) => [(2, .box (smE s) 104)]) (fun (n : Nat) => n <= 5 /\ (1 <= n -> ¬ s.Free = true) /\ (2 <= n -> ¬ s.Count.N % 3 = 0) /\ (3 <= n -> ¬ s.Count.N % 3 = 1) /\ (4 <= n -> ¬ s.Count.N = 2) /\ (5 <= n -> ¬ s.Count.N % 3 = 2)) (fun (n : Nat) => 5 - n) 0 (fun n hk => ?_) (hJ := by
  exact ⟨by omega, by omega, by omega, by omega, by omega, by omega⟩)
 obtain ⟨hk1, hk2, hk3, hk4, hk5, hk6⟩ := hk;apply yb;refine ye ?_;apply yd;refine yk rfl ?_ ?_<;>intro hc1
 ·apply yf;apply yd;apply X.block;apply yd;obtain hn | hn | hn | hn | hn : n = 0 \/ n = 1 \/ n = 2 \/ n = 3 \/ n = 4 := by omega
  ·have hpt : (([.fn 203 [], iv 1, iv 0, .fn 202 [.ept (fun _ : Unit => [iv 0]) () 0], iv 0, iv 0, .fn 202 [.ept (fun _ : Unit => [iv 1]) () 0], iv 1, iv 2, .fn 204 [], iv 4, iv 3, .fn 202 [.ept (fun _ : Unit => [iv 2]) () 0], iv 3, iv 4] : List AV).drop (((n : Nat) : Int).toNat * 3)).take 3 = [.fn 203 [], iv 1, iv 0] := by rw [hn]; rfl
   apply yc;refine ya (hs := by exact zR ArK.h TyK.h rfl rfl (by omega) (by omega) hpt) ?_;refine yJ ?_;refine yi ?_;apply Ex.nil;apply yd;apply yb;(iterate 3 refine ya ?_);refine yr (zhE s) ?_;refine ye ?_;refine yk rfl ?_ ?_<;>intro hc2
   ·have hx0 : ¬ s.Free = true := by first | exact hc2 | (rw [hc2]; decide) | (simp at hc2; simp [hc2]; done) | omega
    apply X.exit;apply yc;refine yh ?_
    refine yL (n + 1) (hJ := by
     refine ⟨by omega, ?_, ?_, ?_, ?_, ?_⟩ <;> intro h6 <;> first | assumption | (exact absurd h6 (by omega)) | (exact hk2 (by omega)) | (exact hk3 (by omega)) | (exact hk4 (by omega)) | (exact hk5 (by omega)) | (exact hk6 (by omega)))
   have hy : s.Free = true := by first | exact hc2 | (simp at hc2; exact hc2) | omega
   have hW : (wnL s).find? (fun c => decide (c ∈ A)) = [(1 : Int), 0].find? (fun c => decide (c ∈ A)) := by
    have h0 := hk2;rw [show wnL s = [1, 0] by unfold wnL; simp_all]
   apply yf;apply yd;apply yb;(iterate 4 refine ya ?_);refine yO intE [_, _] ?_;refine yh ?_;apply X.block
   refine y9 (ι := Nat) (fun (j : Nat) => [(1, yg A), (2, .ptr 2 0 0 0), (4, iv 0), (5, .bool false), (10, .agg [.fn 203 [], iv 1, iv 0, .fn 202 [.ept (fun _ : Unit => [iv 0]) () 0], iv 0, iv 0, .fn 202 [.ept (fun _ : Unit => [iv 1]) () 0], iv 1, iv 2, .fn 204 [], iv 4, iv 3, .fn 202 [.ept (fun _ : Unit => [iv 2]) () 0], iv 3, iv 4]), (11, iv (n : Int)), (23, .own 23), (24, iv 2), (25, iv (j : Int))]) (fun (j : Nat) => [(2, .box (smE s) 104), (23, .row intE [1, 0] 3 1)]) (fun (j : Nat) => j <= 2 /\ ∀ i : Nat, i < j -> ∀ d, ([1, 0] : List Int)[i]? = some d -> d ∉ A) (fun (j : Nat) => 2 - j) 0 (fun j hk => ?_) (hJ := by
    exact ⟨by omega, fun i hi => absurd hi (by omega)⟩)
   obtain ⟨hj1, hj2⟩ := hk;apply yb;refine ye ?_;apply yd;refine yk rfl ?_ ?_<;>intro hc3
   ·obtain ⟨x, hx⟩ : ∃ x, ([1, 0] : List Int)[j]? = some x := ⟨_, lgg (by simp; omega)⟩;have hx2 : ([1, 0] : List Int)[(j : Int).toNat]? = some x := by simpa using hx
    apply yf;apply yd;apply X.block;apply yb;(iterate 3 refine ya ?_);apply yn;(iterate 2 refine ya ?_);refine yr (yV A x (by omega)) ?_;apply Ex.nil;refine yk rfl ?_ ?_<;>intro hc4
    ·have hE : chF s A = some x := by unfold chF; rw [hW]; exact zhD hx (by simpa using hc4) hj2
     apply yb;refine yp ?_;refine X.ret ?_;refine yz ?_ ?_;all_goals (rw [hE]; rfl)
    apply yf;apply yc;refine yh ?_
    refine yL (j + 1) (hJ := by
     exact ⟨by omega, zfO hx (by simpa using hc4) hj2⟩)
   ·have hj3 : j = 2 := by omega
    subst hj3;have hE : chF s A = none := by unfold chF; rw [hW]; exact zfN hj2
    apply X.exit;apply yb;refine yh ?_;refine X.ret ?_;refine yz ?_ ?_;all_goals (rw [hE]; rfl)
  ·have hpt : (([.fn 203 [], iv 1, iv 0, .fn 202 [.ept (fun _ : Unit => [iv 0]) () 0], iv 0, iv 0, .fn 202 [.ept (fun _ : Unit => [iv 1]) () 0], iv 1, iv 2, .fn 204 [], iv 4, iv 3, .fn 202 [.ept (fun _ : Unit => [iv 2]) () 0], iv 3, iv 4] : List AV).drop (((n : Nat) : Int).toNat * 3)).take 3 = [.fn 202 [.ept (fun _ : Unit => [iv 0]) () 0], iv 0, iv 0] := by rw [hn]; rfl
   apply yc;refine ya (hs := by exact zR ArK.h TyK.h rfl rfl (by omega) (by omega) hpt) ?_;refine yJ ?_;refine yi ?_;apply Ex.nil;apply yd;apply yb;(iterate 3 refine ya ?_);refine yr (zbu s 0 hN) ?_;refine ye ?_;refine yk rfl ?_ ?_<;>intro hc5
   ·have hx1 : ¬ s.Count.N % 3 = 0 := by first | exact hc5 | (rw [hc5]; decide) | (simp at hc5; simp [hc5]; done) | omega
    apply X.exit;apply yc;refine yh ?_
    refine yL (n + 1) (hJ := by
     refine ⟨by omega, ?_, ?_, ?_, ?_, ?_⟩ <;> intro h6 <;> first | assumption | (exact absurd h6 (by omega)) | (exact hk2 (by omega)) | (exact hk3 (by omega)) | (exact hk4 (by omega)) | (exact hk5 (by omega)) | (exact hk6 (by omega)))
   have hy : s.Count.N % 3 = 0 := by first | exact hc5 | (simp at hc5; exact hc5) | omega
   have hW : (wnL s).find? (fun c => decide (c ∈ A)) = [(0 : Int), 0].find? (fun c => decide (c ∈ A)) := by
    have h0 := hk2;rw [zn0, show wnL s = [0] by unfold wnL; simp_all]
   apply yf;apply yd;apply yb;(iterate 4 refine ya ?_);refine yO intE [_, _] ?_;refine yh ?_;apply X.block
   refine y9 (ι := Nat) (fun (j : Nat) => [(1, yg A), (2, .ptr 2 0 0 0), (4, iv 0), (5, .bool false), (10, .agg [.fn 203 [], iv 1, iv 0, .fn 202 [.ept (fun _ : Unit => [iv 0]) () 0], iv 0, iv 0, .fn 202 [.ept (fun _ : Unit => [iv 1]) () 0], iv 1, iv 2, .fn 204 [], iv 4, iv 3, .fn 202 [.ept (fun _ : Unit => [iv 2]) () 0], iv 3, iv 4]), (11, iv (n : Int)), (23, .own 23), (24, iv 2), (25, iv (j : Int))]) (fun (j : Nat) => [(2, .box (smE s) 104), (23, .row intE [0, 0] 3 1)]) (fun (j : Nat) => j <= 2 /\ ∀ i : Nat, i < j -> ∀ d, ([0, 0] : List Int)[i]? = some d -> d ∉ A) (fun (j : Nat) => 2 - j) 0 (fun j hk => ?_) (hJ := by
    exact ⟨by omega, fun i hi => absurd hi (by omega)⟩)
   obtain ⟨hj1, hj2⟩ := hk;apply yb;refine ye ?_;apply yd;refine yk rfl ?_ ?_<;>intro hc6
   ·obtain ⟨x, hx⟩ : ∃ x, ([0, 0] : List Int)[j]? = some x := ⟨_, lgg (by simp; omega)⟩;have hx2 : ([0, 0] : List Int)[(j : Int).toNat]? = some x := by simpa using hx
    apply yf;apply yd;apply X.block;apply yb;(iterate 3 refine ya ?_);apply yn;(iterate 2 refine ya ?_);refine yr (yV A x (by omega)) ?_;apply Ex.nil;refine yk rfl ?_ ?_<;>intro hc7
    ·have hE : chF s A = some x := by unfold chF; rw [hW]; exact zhD hx (by simpa using hc7) hj2
     apply yb;refine yp ?_;refine X.ret ?_;refine yz ?_ ?_;all_goals (rw [hE]; rfl)
    apply yf;apply yc;refine yh ?_
    refine yL (j + 1) (hJ := by
     exact ⟨by omega, zfO hx (by simpa using hc7) hj2⟩)
   ·have hj3 : j = 2 := by omega
    subst hj3;have hE : chF s A = none := by unfold chF; rw [hW]; exact zfN hj2
    apply X.exit;apply yb;refine yh ?_;refine X.ret ?_;refine yz ?_ ?_;all_goals (rw [hE]; rfl)
  ·have hpt : (([.fn 203 [], iv 1, iv 0, .fn 202 [.ept (fun _ : Unit => [iv 0]) () 0], iv 0, iv 0, .fn 202 [.ept (fun _ : Unit => [iv 1]) () 0], iv 1, iv 2, .fn 204 [], iv 4, iv 3, .fn 202 [.ept (fun _ : Unit => [iv 2]) () 0], iv 3, iv 4] : List AV).drop (((n : Nat) : Int).toNat * 3)).take 3 = [.fn 202 [.ept (fun _ : Unit => [iv 1]) () 0], iv 1, iv 2] := by rw [hn]; rfl
   apply yc;refine ya (hs := by exact zR ArK.h TyK.h rfl rfl (by omega) (by omega) hpt) ?_;refine yJ ?_;refine yi ?_;apply Ex.nil;apply yd;apply yb;(iterate 3 refine ya ?_);refine yr (zbu s 1 hN) ?_;refine ye ?_;refine yk rfl ?_ ?_<;>intro hc8
   ·have hx2 : ¬ s.Count.N % 3 = 1 := by first | exact hc8 | (rw [hc8]; decide) | (simp at hc8; simp [hc8]; done) | omega
    apply X.exit;apply yc;refine yh ?_
    refine yL (n + 1) (hJ := by
     refine ⟨by omega, ?_, ?_, ?_, ?_, ?_⟩ <;> intro h6 <;> first | assumption | (exact absurd h6 (by omega)) | (exact hk2 (by omega)) | (exact hk3 (by omega)) | (exact hk4 (by omega)) | (exact hk5 (by omega)) | (exact hk6 (by omega)))
   have hy : s.Count.N % 3 = 1 := by first | exact hc8 | (simp at hc8; exact hc8) | omega
   have hW : (wnL s).find? (fun c => decide (c ∈ A)) = [(1 : Int), 2].find? (fun c => decide (c ∈ A)) := by
    have h0 := hk2;rw [show wnL s = [1, 2] by unfold wnL; simp_all]
   apply yf;apply yd;apply yb;(iterate 4 refine ya ?_);refine yO intE [_, _] ?_;refine yh ?_;apply X.block
   refine y9 (ι := Nat) (fun (j : Nat) => [(1, yg A), (2, .ptr 2 0 0 0), (4, iv 0), (5, .bool false), (10, .agg [.fn 203 [], iv 1, iv 0, .fn 202 [.ept (fun _ : Unit => [iv 0]) () 0], iv 0, iv 0, .fn 202 [.ept (fun _ : Unit => [iv 1]) () 0], iv 1, iv 2, .fn 204 [], iv 4, iv 3, .fn 202 [.ept (fun _ : Unit => [iv 2]) () 0], iv 3, iv 4]), (11, iv (n : Int)), (23, .own 23), (24, iv 2), (25, iv (j : Int))]) (fun (j : Nat) => [(2, .box (smE s) 104), (23, .row intE [1, 2] 3 1)]) (fun (j : Nat) => j <= 2 /\ ∀ i : Nat, i < j -> ∀ d, ([1, 2] : List Int)[i]? = some d -> d ∉ A) (fun (j : Nat) => 2 - j) 0 (fun j hk => ?_) (hJ := by
    exact ⟨by omega, fun i hi => absurd hi (by omega)⟩)
   obtain ⟨hj1, hj2⟩ := hk;apply yb;refine ye ?_;apply yd;refine yk rfl ?_ ?_<;>intro hc9
   ·obtain ⟨x, hx⟩ : ∃ x, ([1, 2] : List Int)[j]? = some x := ⟨_, lgg (by simp; omega)⟩;have hx2 : ([1, 2] : List Int)[(j : Int).toNat]? = some x := by simpa using hx
    apply yf;apply yd;apply X.block;apply yb;(iterate 3 refine ya ?_);apply yn;(iterate 2 refine ya ?_);refine yr (yV A x (by omega)) ?_;apply Ex.nil;refine yk rfl ?_ ?_<;>intro hc10
    ·have hE : chF s A = some x := by unfold chF; rw [hW]; exact zhD hx (by simpa using hc10) hj2
     apply yb;refine yp ?_;refine X.ret ?_;refine yz ?_ ?_;all_goals (rw [hE]; rfl)
    apply yf;apply yc;refine yh ?_
    refine yL (j + 1) (hJ := by
     exact ⟨by omega, zfO hx (by simpa using hc10) hj2⟩)
   ·have hj3 : j = 2 := by omega
    subst hj3;have hE : chF s A = none := by unfold chF; rw [hW]; exact zfN hj2
    apply X.exit;apply yb;refine yh ?_;refine X.ret ?_;refine yz ?_ ?_;all_goals (rw [hE]; rfl)
  ·have hpt : (([.fn 203 [], iv 1, iv 0, .fn 202 [.ept (fun _ : Unit => [iv 0]) () 0], iv 0, iv 0, .fn 202 [.ept (fun _ : Unit => [iv 1]) () 0], iv 1, iv 2, .fn 204 [], iv 4, iv 3, .fn 202 [.ept (fun _ : Unit => [iv 2]) () 0], iv 3, iv 4] : List AV).drop (((n : Nat) : Int).toNat * 3)).take 3 = [.fn 204 [], iv 4, iv 3] := by rw [hn]; rfl
   apply yc;refine ya (hs := by exact zR ArK.h TyK.h rfl rfl (by omega) (by omega) hpt) ?_;refine yJ ?_;refine yi ?_;apply Ex.nil;apply yd;apply yb;(iterate 3 refine ya ?_);refine yr (zhF s) ?_;refine ye ?_;refine yk rfl ?_ ?_<;>intro hc11
   ·have hx3 : ¬ s.Count.N = 2 := by first | exact hc11 | (rw [hc11]; decide) | (simp at hc11; simp [hc11]; done) | omega
    apply X.exit;apply yc;refine yh ?_
    refine yL (n + 1) (hJ := by
     refine ⟨by omega, ?_, ?_, ?_, ?_, ?_⟩ <;> intro h6 <;> first | assumption | (exact absurd h6 (by omega)) | (exact hk2 (by omega)) | (exact hk3 (by omega)) | (exact hk4 (by omega)) | (exact hk5 (by omega)) | (exact hk6 (by omega)))
   have hy : s.Count.N = 2 := by first | exact hc11 | (simp at hc11; exact hc11) | omega
   have hW : (wnL s).find? (fun c => decide (c ∈ A)) = [(4 : Int), 3].find? (fun c => decide (c ∈ A)) := by
    have h0 := hk2;rw [show wnL s = [4, 3] by unfold wnL; simp_all]
   apply yf;apply yd;apply yb;(iterate 4 refine ya ?_);refine yO intE [_, _] ?_;refine yh ?_;apply X.block
   refine y9 (ι := Nat) (fun (j : Nat) => [(1, yg A), (2, .ptr 2 0 0 0), (4, iv 0), (5, .bool false), (10, .agg [.fn 203 [], iv 1, iv 0, .fn 202 [.ept (fun _ : Unit => [iv 0]) () 0], iv 0, iv 0, .fn 202 [.ept (fun _ : Unit => [iv 1]) () 0], iv 1, iv 2, .fn 204 [], iv 4, iv 3, .fn 202 [.ept (fun _ : Unit => [iv 2]) () 0], iv 3, iv 4]), (11, iv (n : Int)), (23, .own 23), (24, iv 2), (25, iv (j : Int))]) (fun (j : Nat) => [(2, .box (smE s) 104), (23, .row intE [4, 3] 3 1)]) (fun (j : Nat) => j <= 2 /\ ∀ i : Nat, i < j -> ∀ d, ([4, 3] : List Int)[i]? = some d -> d ∉ A) (fun (j : Nat) => 2 - j) 0 (fun j hk => ?_) (hJ := by
    exact ⟨by omega, fun i hi => absurd hi (by omega)⟩)
   obtain ⟨hj1, hj2⟩ := hk;apply yb;refine ye ?_;apply yd;refine yk rfl ?_ ?_<;>intro hc12
   ·obtain ⟨x, hx⟩ : ∃ x, ([4, 3] : List Int)[j]? = some x := ⟨_, lgg (by simp; omega)⟩;have hx2 : ([4, 3] : List Int)[(j : Int).toNat]? = some x := by simpa using hx
    apply yf;apply yd;apply X.block;apply yb;(iterate 3 refine ya ?_);apply yn;(iterate 2 refine ya ?_);refine yr (yV A x (by omega)) ?_;apply Ex.nil;refine yk rfl ?_ ?_<;>intro hc13
    ·have hE : chF s A = some x := by unfold chF; rw [hW]; exact zhD hx (by simpa using hc13) hj2
     apply yb;refine yp ?_;refine X.ret ?_;refine yz ?_ ?_;all_goals (rw [hE]; rfl)
    apply yf;apply yc;refine yh ?_
    refine yL (j + 1) (hJ := by
     exact ⟨by omega, zfO hx (by simpa using hc13) hj2⟩)
   ·have hj3 : j = 2 := by omega
    subst hj3;have hE : chF s A = none := by unfold chF; rw [hW]; exact zfN hj2
    apply X.exit;apply yb;refine yh ?_;refine X.ret ?_;refine yz ?_ ?_;all_goals (rw [hE]; rfl)
  ·have hpt : (([.fn 203 [], iv 1, iv 0, .fn 202 [.ept (fun _ : Unit => [iv 0]) () 0], iv 0, iv 0, .fn 202 [.ept (fun _ : Unit => [iv 1]) () 0], iv 1, iv 2, .fn 204 [], iv 4, iv 3, .fn 202 [.ept (fun _ : Unit => [iv 2]) () 0], iv 3, iv 4] : List AV).drop (((n : Nat) : Int).toNat * 3)).take 3 = [.fn 202 [.ept (fun _ : Unit => [iv 2]) () 0], iv 3, iv 4] := by rw [hn]; rfl
   apply yc;refine ya (hs := by exact zR ArK.h TyK.h rfl rfl (by omega) (by omega) hpt) ?_;refine yJ ?_;refine yi ?_;apply Ex.nil;apply yd;apply yb;(iterate 3 refine ya ?_);refine yr (zbu s 2 hN) ?_;refine ye ?_;refine yk rfl ?_ ?_<;>intro hc14
   ·have hx4 : ¬ s.Count.N % 3 = 2 := by first | exact hc14 | (rw [hc14]; decide) | (simp at hc14; simp [hc14]; done) | omega
    apply X.exit;apply yc;refine yh ?_
    refine yL (n + 1) (hJ := by
     refine ⟨by omega, ?_, ?_, ?_, ?_, ?_⟩ <;> intro h6 <;> first | assumption | (exact absurd h6 (by omega)) | (exact hk2 (by omega)) | (exact hk3 (by omega)) | (exact hk4 (by omega)) | (exact hk5 (by omega)) | (exact hk6 (by omega)))
   have hy : s.Count.N % 3 = 2 := by first | exact hc14 | (simp at hc14; exact hc14) | omega
   have hW : (wnL s).find? (fun c => decide (c ∈ A)) = [(3 : Int), 4].find? (fun c => decide (c ∈ A)) := by
    have h0 := hk2;rw [show wnL s = [3, 4] by unfold wnL; simp_all]
   apply yf;apply yd;apply yb;(iterate 4 refine ya ?_);refine yO intE [_, _] ?_;refine yh ?_;apply X.block
   refine y9 (ι := Nat) (fun (j : Nat) => [(1, yg A), (2, .ptr 2 0 0 0), (4, iv 0), (5, .bool false), (10, .agg [.fn 203 [], iv 1, iv 0, .fn 202 [.ept (fun _ : Unit => [iv 0]) () 0], iv 0, iv 0, .fn 202 [.ept (fun _ : Unit => [iv 1]) () 0], iv 1, iv 2, .fn 204 [], iv 4, iv 3, .fn 202 [.ept (fun _ : Unit => [iv 2]) () 0], iv 3, iv 4]), (11, iv (n : Int)), (23, .own 23), (24, iv 2), (25, iv (j : Int))]) (fun (j : Nat) => [(2, .box (smE s) 104), (23, .row intE [3, 4] 3 1)]) (fun (j : Nat) => j <= 2 /\ ∀ i : Nat, i < j -> ∀ d, ([3, 4] : List Int)[i]? = some d -> d ∉ A) (fun (j : Nat) => 2 - j) 0 (fun j hk => ?_) (hJ := by
    exact ⟨by omega, fun i hi => absurd hi (by omega)⟩)
   obtain ⟨hj1, hj2⟩ := hk;apply yb;refine ye ?_;apply yd;refine yk rfl ?_ ?_<;>intro hc15
   ·obtain ⟨x, hx⟩ : ∃ x, ([3, 4] : List Int)[j]? = some x := ⟨_, lgg (by simp; omega)⟩;have hx2 : ([3, 4] : List Int)[(j : Int).toNat]? = some x := by simpa using hx
    apply yf;apply yd;apply X.block;apply yb;(iterate 3 refine ya ?_);apply yn;(iterate 2 refine ya ?_);refine yr (yV A x (by omega)) ?_;apply Ex.nil;refine yk rfl ?_ ?_<;>intro hc16
    ·have hE : chF s A = some x := by unfold chF; rw [hW]; exact zhD hx (by simpa using hc16) hj2
     apply yb;refine yp ?_;refine X.ret ?_;refine yz ?_ ?_;all_goals (rw [hE]; rfl)
    apply yf;apply yc;refine yh ?_
    refine yL (j + 1) (hJ := by
     exact ⟨by omega, zfO hx (by simpa using hc16) hj2⟩)
   ·have hj3 : j = 2 := by omega
    subst hj3;have hE : chF s A = none := by unfold chF; rw [hW]; exact zfN hj2
    apply X.exit;apply yb;refine yh ?_;refine X.ret ?_;refine yz ?_ ?_;all_goals (rw [hE]; rfl)
 ·exfalso; have a := hk3 (by omega); have b := hk4 (by omega); have c := hk6 (by omega); omega
end Go.Rse
namespace Go.Rse
open Go Go.Proofs
attribute [local irreducible] Pur yK yM Ex X Fn Imp LeV LeB FnO It yW FnW FnOW
theorem zrq {l : List Int} {k : Nat} {x y : Int} (hx : l[k]? = some x) (h : y ∉ l.take k) (hy : ¬ x = y) : y ∉ l.take (k + 1) := by
 rw [List.take_add_one, hx];intro hm;rcases List.mem_append.1 hm with hm | hm
 ·exact h hm
 ·simp at hm; exact hy hm.symm
theorem zoZ {s : Sgm} {A : List Int} (h : (chF s A).isSome = true) : chF s A = some ((chF s A).getD 0) := by
 cases hc : chF s A with
 | none => rw [hc] at h; cases h
 | some c => rfl
theorem zrr {s : Sgm} {A : List Int} {x : Int} (e : x = (chF s A).getD (-1)) (h : x < 0) : chF s A = none := by
 cases hc : chF s A with
 | none => rfl
 | some c => have := zmX hc; rw [hc] at e; rw [e] at h; exact absurd (show c < 0 from h) (by omega)
theorem zrs {s : Sgm} {A : List Int} {x : Int} (e : x = (chF s A).getD (-1)) (h : 0 <= x) : chF s A = some x := by
 cases hc : chF s A with
 | none => rw [hc] at e; subst e; exact absurd h (by decide)
 | some c => rw [hc] at e; subst e; rfl
attribute [local irreducible] stK okJ alK alQ segV segE unT muF muI chF wnL wdF cuE cuV cuO mdJ
set_option maxHeartbeats 2000000 in
theorem zeN (m : Mn) (k : Int) (l : List Ite) (h0 : -9223372036854775808 <= k) (h1 : k <= 9223372036854775807) (hl : l.length <= 1000000) : Fn Tryz.prog 18 [mnA m, iv k, itsA l] (.tup [yg (cuV m k l), iv (cuE m k l)]) := by
 have hbl := zaz m k l;refine Fn.go Tryz.func18 Tryz.ntmps18 (fun g w d => ?_);apply yb;refine yH ?_;iterate 2 refine ya ?_
 apply yn;iterate 3 refine ya ?_
 refine yr (zbt m k l h0 h1 hl) ?_;refine y4 ?_;apply yd;apply yb;refine yh ?_;refine yk rfl ?_ ?_<;>intro hc1
 ·have hZ1 := zsS hc1;obtain ⟨hE, hV⟩ := hZ1;apply yb;refine yp ?_;refine X.ret ?_;refine yu (yl (ts := [(6, yg []), (7, iv (segE m k l))]) (hs := [])) ?_;refine yz ?_ ?_;all_goals (first | (rw [hE]; done) | (rw [hV]; done) | exact congrArg (fun z => yg z) hV | exact congrArg (fun z => AV.int .i64 z) hE.symm | (with_reducible rfl))
 have h00 : segE m k l = 0 := by omega
 have hz0 : [] = muF m k l 0 := zt3.symm;apply yf;apply yb;refine ye ?_;iterate 2 apply yd
 refine y3 (yZ intE 3 1 10 5 rfl rfl) ?_;apply yc;refine yp ?_;apply X.block
 refine y9 (ι := Nat) (fun (n : Nat) => [(1, iv k), (2, itsA l), (3, .ptr 3 0 0 0), (10, .own 5), (27, smsA (segV m k l)), (28, iv (segV m k l).length), (29, iv (n : Int))]) (fun (n : Nat) => [(3, .box (mnE m) 23), (5, .row intE (muF m k l n) 3 1)]) (fun (n : Nat) => n <= (segV m k l).length /\ muI m k l n = true) (fun (n : Nat) => (segV m k l).length - n) 0 (fun n hk => ?_) (hJ := by
  exact ⟨by omega, zp4⟩) (h0 := by
  exact yx)
 obtain ⟨hk1, hk2⟩ := hk;apply yb;refine ye ?_;apply yd;refine yk rfl ?_ ?_<;>intro hc2
 ·obtain ⟨s, hs⟩ : ∃ s, (segV m k l)[n]? = some s := ⟨_, lgg (by omega)⟩;have hs2 : (segV m k l)[(n : Int).toNat]? = some s := by simpa using hs
  have hsN := zd9 m k l s (List.mem_of_getElem? hs);have hLn := zhC hk2;have hAl := zlZ (unT m k) k (segV m k l) l (muF m k l n) (muF m k l n).length;apply yf;apply yd;apply X.block;apply yb;iterate 2 refine ya ?_
  refine yJ ?_;refine yi ?_;apply yn;iterate 4 refine ya ?_
  refine Ex.stepA (zlE (stF := ⟨[(34, mnA m), (35, iv k), (36, itsA l), (37, yg (muF m k l n))], []⟩) 38 ((Imp.freeze (k := 5) rfl).trans yl) (zfH m k l (muF m k l n) h0 h1 (by omega) (by omega) (hE := h00) (hX := by simp; omega) (hok := zp5 hk2) (hN := zd9 m k l) (hMS := by omega))) rfl rfl ?_;refine y4 ?_;apply yd;apply yb;refine yh ?_;refine yk rfl ?_ ?_<;>intro hc3
  ·exact absurd rfl hc3
  apply yf;apply yd;refine y3 (Imp.freeze (k := 38) rfl) ?_;apply yc;iterate 2 refine ya ?_
  refine yr (zhU s (akF m k l n) hsN (by unfold akF; omega)) ?_;refine y4 ?_;apply yd;apply yb;refine yh ?_;refine yk rfl ?_ ?_<;>intro hc4
  ·have hC : chF s (akF m k l n) = none := by first | exact hc4 | simpa using hc4
   have hZ2 := zsT h00 hk2 hs hC;obtain ⟨hE, hV⟩ := hZ2;apply yb;refine yh ?_;refine X.ret ?_;refine yu (yl (ts := [(6, yg []), (7, iv 14)]) (hs := [])) ?_;refine yz ?_ ?_;all_goals (first | (rw [hE]; done) | (rw [hV]; done) | exact congrArg (fun z => yg z) hV | exact congrArg (fun z => AV.int .i64 z) hE.symm | (with_reducible rfl))
  have hC := zoZ hc4;have hZ3 := zsR hk2 hs hC;obtain ⟨hI, hst⟩ := hZ3;apply yf;apply yc;iterate 2 refine ya ?_
  refine yO intE [_] ?_;refine yi ?_;refine ye ?_;apply yc;refine yh ?_
  refine yL (n + 1) (hJ := by
   exact ⟨by omega, hI⟩) (hI := yx)
 ·have hn : n = (segV m k l).length := by omega
  have hZ4 := znX h00 hk2 hn;obtain ⟨hE, hV⟩ := hZ4;apply X.exit;apply yb;refine yp ?_;refine X.ret ?_;refine yu (Imp.freeze (k := 5) rfl) ?_;refine yz ?_ ?_;all_goals (first | (rw [hE]; done) | (rw [hV]; done) | exact congrArg (fun z => yg z) hV | exact congrArg (fun z => AV.int .i64 z) hE.symm | (with_reducible rfl))
theorem zgc (l : List Int) (x : Int) (hl : l.length <= 4000000000) : Fn Tryz.prog 69 [yg l, iv x] (.bool (decide (x ∈ l))) := by
 refine Fn.go Tryz.func69 Tryz.ntmps69 (fun g w d => ?_);apply yb;refine ye ?_;apply yd;apply yb;refine ye ?_;apply X.block
 refine y9 (ι := Nat) (fun (k : Nat) => [(0, yg l), (1, iv x), (5, iv (k : Int))]) (fun (k : Nat) => []) (fun (k : Nat) => k <= l.length /\ x ∉ l.take k) (fun (k : Nat) => l.length - k) 0 (fun k hk => ?_) (hJ := by
  exact ⟨by omega, by simp⟩)
 obtain ⟨hk1, hk2⟩ := hk;apply yd;apply yb;refine yX ?_;refine yk rfl ?_ ?_<;>intro hc1
 ·obtain ⟨y, hy⟩ : ∃ y, l[k]? = some y := ⟨_, lgg (by omega)⟩;have hy2 : l[(k : Int).toNat]? = some y := by simpa using hy
  apply yf;apply yd;apply X.block;apply yb;iterate 5 refine ya ?_
  refine ye ?_;refine yk rfl ?_ ?_<;>intro hc2
  ·have hE : decide (x ∈ l) = true := by rw [← hc2]; exact decide_eq_true (List.mem_of_getElem? hy)
   apply yb;refine ye ?_;refine X.ret ?_;refine ym ?_;all_goals (rw [hE])
  apply yf;apply yc;refine yp ?_
  refine yL (k + 1) (hJ := by
   exact ⟨by omega, zrq hy hk2 hc2⟩)
 ·have hkl : k = l.length := by omega
  have hE : decide (x ∈ l) = false := by rw [hkl, List.take_length] at hk2; exact decide_eq_false hk2
  apply X.exit;apply yb;refine ye ?_;refine X.ret ?_;refine ym ?_;all_goals (rw [hE])
theorem zeb (s : Sgm) (hN : 0 <= s.Count.N) : Fn Tryz.prog 68 [smA s] (yg (wnL s)) := by
 refine Fn.go Tryz.func68 Tryz.ntmps68 (fun g w d => ?_);apply yb;refine yH ?_;refine ya ?_;apply yn;refine y4 ?_;apply yd;apply X.block;apply yb;refine yp ?_;refine yk rfl ?_ ?_<;>intro hc1
 ·apply yb;refine yO intE [_, _] ?_;refine ye ?_;refine X.ret ?_;refine yu (Imp.freeze (k := 11) rfl) ?_;refine ym ?_;all_goals (first | (unfold wnL; simp_all; done) | (unfold wnL; simp_all; rfl))
 apply yb;refine yp ?_;refine yk rfl ?_ ?_<;>intro hc2
 ·apply yb;refine yO intE [_] ?_;refine ye ?_;refine X.ret ?_;refine yu (Imp.freeze (k := 15) rfl) ?_;refine ym ?_;all_goals (first | (unfold wnL; simp_all; done) | (unfold wnL; simp_all; rfl))
 apply yb;refine yp ?_;refine yk rfl ?_ ?_<;>intro hc3
 ·apply yb;refine yO intE [_, _] ?_;refine ye ?_;refine X.ret ?_;refine yu (Imp.freeze (k := 19) rfl) ?_;refine ym ?_;all_goals (first | (unfold wnL; simp_all; done) | (unfold wnL; simp_all; rfl))
 apply yb;refine y4 ?_;refine yk rfl ?_ ?_<;>intro hc4
 ·apply yb;refine yO intE [_, _] ?_;refine ye ?_;refine X.ret ?_;refine yu (Imp.freeze (k := 25) rfl) ?_;refine ym ?_;all_goals (first | (unfold wnL; simp_all; done) | (unfold wnL; simp_all; rfl))
 apply yf;apply yb;refine yO intE [_, _] ?_;refine ye ?_;refine X.ret ?_;refine yu (Imp.freeze (k := 26) rfl) ?_;refine ym ?_;all_goals (first | (unfold wnL; simp_all; done) | (unfold wnL; simp_all; rfl))
set_option maxHeartbeats 2000000 in
theorem zec (m : Mn) (k : Int) (l : List Ite) (h0 : -9223372036854775808 <= k) (h1 : k <= 9223372036854775807) (hl : l.length <= 400000) : Fn Tryz.prog 19 [mnA m, iv k, itsA l] (.tup [yg (cuV m k l), iv (cuE m k l)]) := by
 have hbl := zaz m k l;refine Fn.go Tryz.func19 Tryz.ntmps19 (fun g w d => ?_);apply yb;refine yH ?_;iterate 2 refine ya ?_
 apply yn;iterate 3 refine ya ?_
 refine yr (zaf m k l h0 h1 (by omega)) ?_;refine y4 ?_;apply yd;apply yb;refine yh ?_;refine yk rfl ?_ ?_<;>intro hc1
 ·have hZ1 := zsS hc1;obtain ⟨hE, hV⟩ := hZ1;apply yb;refine yp ?_;refine X.ret ?_;refine yu (yl (ts := [(6, yg []), (7, iv (segE m k l))]) (hs := [])) ?_;refine yz ?_ ?_;all_goals (first | (rw [hE]; done) | (rw [hV]; done) | exact congrArg (fun z => yg z) hV | exact congrArg (fun z => AV.int .i64 z) hE.symm | (with_reducible rfl))
 have h00 : segE m k l = 0 := by omega
 have hz0 : [] = muF m k l 0 := zt3.symm;apply yf;apply yb;refine ye ?_;iterate 2 apply yd
 refine y3 (yZ intE 3 1 10 5 rfl rfl) ?_;apply yc;refine ye ?_;apply X.block
 refine y9 (ι := Nat) (fun (n : Nat) => [(1, iv k), (2, itsA l), (3, .ptr 3 0 0 0), (8, smsA (segV m k l)), (10, .own 5), (11, iv (n : Int))]) (fun (n : Nat) => [(3, .box (mnE m) 23), (5, .row intE (muF m k l n) 3 1)]) (fun (n : Nat) => n <= (segV m k l).length /\ muI m k l n = true) (fun (n : Nat) => (segV m k l).length - n) 0 (fun n hk => ?_) (hJ := by
  exact ⟨by omega, zp4⟩) (h0 := by
  exact yx)
 obtain ⟨hk1, hk2⟩ := hk;apply yd;apply yb;refine yX ?_;refine yk rfl ?_ ?_<;>intro hc2
 ·obtain ⟨s, hs⟩ : ∃ s, (segV m k l)[n]? = some s := ⟨_, lgg (by omega)⟩;have hs2 : (segV m k l)[(n : Int).toNat]? = some s := by simpa using hs
  have hsN := zd9 m k l s (List.mem_of_getElem? hs);have hLn := zhC hk2;have hAl := zlZ (unT m k) k (segV m k l) l (muF m k l n) (muF m k l n).length;have hwl := zrl s;have hw0 : -1 = wdF (wnL s) (akF m k l n) 0 := (zt0 _ _).symm;have hw1 : ((wnL s).length : Int) - 1 = ((wnL s).length : Int) - 1 - ((0 : Nat) : Int) := by omega
  apply yf;apply yd;apply X.block;apply yb;iterate 4 refine ya ?_
  refine Ex.stepA (zlE (stF := ⟨[(34, mnA m), (35, iv k), (36, itsA l), (37, yg (muF m k l n))], []⟩) 38 ((Imp.freeze (k := 5) rfl).trans yl) (zcQ m k l (muF m k l n) h0 h1 (by omega) (by omega) (hE := h00) (hX := by simp; omega) (hok := zp5 hk2) (hN := zd9 m k l) (hMS := by omega))) rfl rfl ?_;refine y4 ?_;apply yd;refine y3 (Imp.freeze (k := 38) rfl) ?_;apply yc;iterate 4 refine ya ?_
  refine yr (zeb s hsN) ?_;refine ya ?_;apply yn;refine ye ?_;apply yd;apply yb;refine yX ?_;apply X.block
  refine y9 (ι := Nat) (fun (i : Nat) => [(1, iv k), (2, itsA l), (3, .ptr 3 0 0 0), (8, smsA (segV m k l)), (10, .own 5), (11, iv (n : Int)), (12, yg (akF m k l n)), (14, yg (wnL s)), (15, iv (wdF (wnL s) (akF m k l n) i)), (16, iv (((wnL s).length : Int) - 1 - (i : Int)))]) (fun (i : Nat) => [(3, .box (mnE m) 23), (5, .row intE (muF m k l n) 3 1)]) (fun (i : Nat) => i <= (wnL s).length) (fun (i : Nat) => (wnL s).length - i) 0 (fun i hk => ?_) (h0 := by
   exact yx)
  apply yd;apply yb;refine yh ?_;refine yk rfl ?_ ?_<;>intro hc3
  ·obtain ⟨x, hx⟩ : ∃ x, (wnL s)[(wnL s).length - 1 - i]? = some x := ⟨_, lgg (by omega)⟩;have hx2 : (wnL s)[(((wnL s).length : Int) - 1 - (i : Int)).toNat]? = some x := by rw [show (((wnL s).length : Int) - 1 - (i : Int)).toNat = (wnL s).length - 1 - i by omega]; exact hx
   have hst := zt1 (A := akF m k l n) (show i < (wnL s).length by omega) hx;have hw2 : ((wnL s).length : Int) - 1 - (i : Int) - 1 = ((wnL s).length : Int) - 1 - ((i + 1 : Nat) : Int) := by omega
   apply yf;apply yd;apply X.block;apply yb;(iterate 5 refine ya ?_);refine yr (zgc (akF m k l n) x (by unfold akF; omega)) ?_;apply Ex.nil;refine yk rfl ?_ ?_<;>intro hc4
   ·have hst2 : x = wdF (wnL s) (akF m k l n) (i + 1) := by rw [hst, if_pos hc4]
    apply yc;refine y4 ?_;apply yc;refine yp ?_;refine yL (i + 1) (hI := yx)
   ·have hst2 : wdF (wnL s) (akF m k l n) i = wdF (wnL s) (akF m k l n) (i + 1) := by rw [hst, if_neg hc4]
    apply yf;apply yc;refine yp ?_;refine yL (i + 1) (hI := yx)
  ·have hi : i = (wnL s).length := by omega
   have hW := zrk (A := akF m k l n) hi;apply X.exit;apply yd;apply yb;refine yh ?_;refine yk rfl ?_ ?_<;>intro hc5
   ·have hC := zrr hW hc5;have hZ2 := zsT h00 hk2 hs hC;obtain ⟨hE, hV⟩ := hZ2;apply yb;refine yh ?_;refine X.ret ?_;refine yu (yl (ts := [(6, yg []), (7, iv 14)]) (hs := [])) ?_;refine yz ?_ ?_;all_goals (first | (rw [hE]; done) | (rw [hV]; done) | exact congrArg (fun z => yg z) hV | exact congrArg (fun z => AV.int .i64 z) hE.symm | (with_reducible rfl))
   have hC := zrs hW hc5;have hZ3 := zsR hk2 hs hC;obtain ⟨hI, hst⟩ := hZ3;apply yf;apply yc;(iterate 2 refine ya ?_);refine yO intE [_] ?_;refine yi ?_;refine ye ?_;apply yc;refine yp ?_
   refine yL (n + 1) (hJ := by
    exact ⟨by omega, hI⟩) (hI := yx)
 ·have hn : n = (segV m k l).length := by omega
  have hZ4 := znX h00 hk2 hn;obtain ⟨hE, hV⟩ := hZ4;apply X.exit;apply yb;refine yp ?_;refine X.ret ?_;refine yu (Imp.freeze (k := 5) rfl) ?_;refine yz ?_ ?_;all_goals (first | (rw [hE]; done) | (rw [hV]; done) | exact congrArg (fun z => yg z) hV | exact congrArg (fun z => AV.int .i64 z) hE.symm | (with_reducible rfl))
end Go.Rse
namespace Go.Rse
open Go Go.Proofs
attribute [local irreducible] Pur yK yM Ex X Fn Imp LeV LeB FnO It yW FnW FnOW
attribute [local irreducible] cuV cuE apV apE leE leC leI lvN lvF ckM perfL ckIE ckIX
set_option maxHeartbeats 2000000 in
theorem zed (m : Mn) (l : List Ite) (hl : l.length <= 100000) : Fn Tryz.prog 21 [mnA m, itsA l] (.tup [yg (leC m l), itsA (leI m l), iv (leE m l)]) := by
 have hp4 := zjl m;refine Fn.go Tryz.func21 Tryz.ntmps21 (fun g w d => ?_);apply yb;refine yH ?_;iterate 3 refine ya ?_
 apply yn;refine ya ?_;refine yr (zbA m) ?_;refine y4 ?_;apply yd;apply yb;refine yh ?_;refine yk rfl ?_ ?_<;>intro hc1
 ·have hZ1 := zrm (l := l) hc1;obtain ⟨hE, hV, hW⟩ := hZ1;apply yb;refine yX ?_;refine X.ret ?_;refine yu (yl (ts := [(4, yg []), (5, itsA []), (6, iv (ckM m))]) (hs := [])) ?_;refine RetQ.ret (.many (by decide) (.cons (.tmp rfl (LeV.eq ?_)) (.cons (.tmp rfl (LeV.eq ?_)) (.cons (.tmp rfl (LeV.eq ?_)) .nil))));all_goals (first | (rw [hE]; done) | (rw [hV]; done) | (rw [hW]; done) | exact congrArg (fun z => yg z) hV | exact congrArg (fun z => itsA z) hW | exact congrArg (fun z => AV.int .i64 z) hE.symm | (with_reducible rfl))
 have hm : ckM m = 0 := by omega
 rw [show (if ckM m = 0 then perfL m else []) = perfL m from if_pos hm];apply yf;apply yb;refine ya ?_;refine yr (zbM l (by omega)) ?_;refine yX ?_;apply yd;apply yb;refine yh ?_;refine yk rfl ?_ ?_<;>intro hc2
 ·have hZ2 := zrn hm hc2;obtain ⟨hE, hV, hW⟩ := hZ2;apply yb;refine yX ?_;refine X.ret ?_;refine yu (yl (ts := [(4, yg []), (5, itsA []), (6, iv (ckIE l))]) (hs := [])) ?_;refine RetQ.ret (.many (by decide) (.cons (.tmp rfl (LeV.eq ?_)) (.cons (.tmp rfl (LeV.eq ?_)) (.cons (.tmp rfl (LeV.eq ?_)) .nil))));all_goals (first | (rw [hE]; done) | (rw [hV]; done) | (rw [hW]; done) | exact congrArg (fun z => yg z) hV | exact congrArg (fun z => itsA z) hW | exact congrArg (fun z => AV.int .i64 z) hE.symm | (with_reducible rfl))
 have hi : ckIE l = 0 := by omega
 apply yf;apply yb;refine ye ?_;apply yd;refine y3 (yZ intE 3 1 9 5 rfl rfl) ?_;apply yc;refine yO itE [] ?_;refine ya ?_;refine yi ?_;refine ye ?_;iterate 2 apply yd
 have hz1 : [] = (lvN m (perfL m) l 0).1 := by unfold lvN; rfl
 have hz2 : ([] : List Ite) ++ l = (lvN m (perfL m) l 0).2 := by unfold lvN; rfl
 refine y3 (st' := ⟨[(2, .ptr 2 0 0 0), (7, yg (perfL m)), (9, .own 5), (10, itsA ([] ++ l))], [(2, .box (mnE m) 23), (5, .row intE [] 3 1)]⟩) ((Imp.freeze (k := 30) rfl).trans yl) ?_;apply yc;refine ye ?_;apply X.block
 refine y9 (ι := Nat) (fun (n : Nat) => [(2, .ptr 2 0 0 0), (7, yg (perfL m)), (9, .own 5), (10, itsA (lvN m (perfL m) l n).2), (11, iv (n : Int))]) (fun (n : Nat) => [(2, .box (mnE m) 23), (5, .row intE (lvN m (perfL m) l n).1 3 1)]) (fun (n : Nat) => LvJ m (perfL m) l n) (fun (n : Nat) => (perfL m).length - n) 0 (fun n hk => ?_) (hJ := by
  exact znY _ _ _) (h0 := by
  exact yx)
 have hJ := hk;have hle := hJ.le;clear hk;apply yd;apply yb;refine yX ?_;refine yk rfl ?_ ?_<;>intro hc3
 ·obtain ⟨k, hk⟩ : ∃ k, (perfL m)[n]? = some k := ⟨_, lgg (by omega)⟩;have hk2 : (perfL m)[(n : Int).toNat]? = some k := by simpa using hk
  have hkb := znZ hk;have hlen := hJ.len;have hcho := hJ.cho;have hn4 : n <= 4 := by omega
  have hc5 : (lvN m (perfL m) l n).1.length <= 5 * (2 * l.length + 2) := Nat.le_trans hcho (Nat.mul_le_mul_right _ (by omega));have hcl := zgU (m := m) (k := k) (l := (lvN m (perfL m) l n).2);have hZ3 := zjk (m := m) (l := l) hk;obtain ⟨hs1, hs2⟩ := hZ3;apply yf;apply yd;apply X.block;apply yd;refine zi [12,13,39,40,41,42,43,44,45,46,47,48] [0,0,0,6,14,0,63,127,255,255,511,2047] mo ?_;iterate 6 refine yj ?_
  refine zj (zec m k (lvN m (perfL m) l n).2 (by omega) (by omega) (by omega)) ?_;iterate 5 refine yj ?_
  refine yR ?_;apply Ex.nil;apply yd;apply yb;refine yh ?_;refine yk rfl ?_ ?_<;>intro hc4
  ·have hZ4 := zro hm hi hJ hk hc4;obtain ⟨hE, hV, hW⟩ := hZ4;apply yb;refine yX ?_;refine X.ret ?_;refine yu (yl (ts := [(4, yg []), (5, itsA []), (6, iv (cuE m k (lvN m (perfL m) l n).2))]) (hs := [])) ?_;refine RetQ.ret (.many (by decide) (.cons (.tmp rfl (LeV.eq ?_)) (.cons (.tmp rfl (LeV.eq ?_)) (.cons (.tmp rfl (LeV.eq ?_)) .nil))));all_goals (first | (rw [hE]; done) | (rw [hV]; done) | (rw [hW]; done) | exact congrArg (fun z => yg z) hV | exact congrArg (fun z => itsA z) hW | exact congrArg (fun z => AV.int .i64 z) hE.symm | (with_reducible rfl))
  have h0 : cuE m k (lvN m (perfL m) l n).2 = 0 := by omega
  have hap := zld h0;apply yf;apply yd;refine X.drawQ [⟨0, 53, mnA m, []⟩, ⟨1, 54, yg (perfL m), []⟩, ⟨2, 55, iv (n : Int), []⟩, ⟨3, 56, .ept intE k 0, [2, 1]⟩, ⟨4, 57, iv k, [2, 1, 3]⟩, ⟨5, 58, itsA (lvN m (perfL m) l n).2, []⟩, ⟨6, 59, yg (cuV m k (lvN m (perfL m) l n).2), []⟩, ⟨8, 52, .tup [itsA (apV m k (lvN m (perfL m) l n).2 (cuV m k (lvN m (perfL m) l n).2)), iv (apE m k (lvN m (perfL m) l n).2 (cuV m k (lvN m (perfL m) l n).2))], [2, 1, 3, 6, 5, 4, 0, 7]⟩, ⟨9, 61, itsA (apV m k (lvN m (perfL m) l n).2 (cuV m k (lvN m (perfL m) l n).2)), [2, 1, 3, 6, 5, 4, 0, 7, 8]⟩, ⟨10, 62, iv (apE m k (lvN m (perfL m) l n).2 (cuV m k (lvN m (perfL m) l n).2)), [2, 1, 3, 6, 5, 4, 0, 7, 8]⟩] [(7, [2, 1, 3, 6, 5, 4, 0]), (11, [8, 6, 5, 4, 3, 2, 1, 0, 7, 9]), (12, [9, 8, 7, 6, 5, 4, 3, 2, 1, 0, 11, 10])] (fun j => match j with | 0 => ⟨[(2, .ptr 2 0 0 0), (7, yg (perfL m)), (9, .own 5), (10, itsA (lvN m (perfL m) l n).2), (11, iv (n : Int)), (12, yg (cuV m k (lvN m (perfL m) l n).2))], [(2, .box (mnE m) 23), (5, .row intE (lvN m (perfL m) l n).1 3 1)]⟩ | 1 => ⟨[(2, .ptr 2 0 0 0), (7, yg (perfL m)), (9, .own 5), (10, itsA (lvN m (perfL m) l n).2), (11, iv (n : Int)), (12, yg (cuV m k (lvN m (perfL m) l n).2)), (60, .tup [itsA (apV m k (lvN m (perfL m) l n).2 (cuV m k (lvN m (perfL m) l n).2)), iv (apE m k (lvN m (perfL m) l n).2 (cuV m k (lvN m (perfL m) l n).2))])], [(2, .box (mnE m) 23), (5, .row intE (lvN m (perfL m) l n).1 3 1)]⟩ | 2 => ⟨[(2, .ptr 2 0 0 0), (7, yg (perfL m)), (9, .own 5), (10, itsA (apV m k (lvN m (perfL m) l n).2 (cuV m k (lvN m (perfL m) l n).2))), (11, iv (n : Int)), (12, yg (cuV m k (lvN m (perfL m) l n).2)), (60, .tup [itsA (apV m k (lvN m (perfL m) l n).2 (cuV m k (lvN m (perfL m) l n).2)), iv (apE m k (lvN m (perfL m) l n).2 (cuV m k (lvN m (perfL m) l n).2))])], [(2, .box (mnE m) 23), (5, .row intE (lvN m (perfL m) l n).1 3 1)]⟩ | _ => ⟨[(2, .ptr 2 0 0 0), (7, yg (perfL m)), (9, .own 5), (10, itsA (apV m k (lvN m (perfL m) l n).2 (cuV m k (lvN m (perfL m) l n).2))), (11, iv (n : Int)), (12, yg (cuV m k (lvN m (perfL m) l n).2)), (60, .tup [itsA (apV m k (lvN m (perfL m) l n).2 (cuV m k (lvN m (perfL m) l n).2)), iv (apE m k (lvN m (perfL m) l n).2 (cuV m k (lvN m (perfL m) l n).2))]), (13, iv (apE m k (lvN m (perfL m) l n).2 (cuV m k (lvN m (perfL m) l n).2)))], [(2, .box (mnE m) 23), (5, .row intE (lvN m (perfL m) l n).1 3 1)]⟩) mo (by kernel_rfl) (zE (yl)) (fun j hj => ?_) (fun j c hc β hβ => ?_) ?_
  ·rcases j with _ | _ | _ | _ | j
   ·(iterate 3 refine ⟨.inr ⟨_, rfl, rfl, rfl, rfl, Pur.stepA yQ⟩, ?_⟩);refine ⟨.inr ⟨_, rfl, rfl, rfl, rfl, Pur.stepA (zU (enc := intE) (l := (perfL m)) (u := k) rfl rfl SlK.h TyK.h (fun _ => rfl) (by omega) hk2)⟩, ?_⟩;exact yS
   ·exact yS
   ·exact yS
   ·exact yS
   ·exact absurd (show j + 4 <= 3 from hj) (by omega)
  ·rcases j with _ | _ | _ | j
   ·obtain rfl : (7, [2, 1, 3, 6, 5, 4, 0]) = c := by injection hc
    refine yw rfl (yG (st0 := ⟨[(53, mnA m), (54, yg (perfL m)), (55, iv (n : Int)), (56, .ept intE k 0), (57, iv k), (58, itsA (lvN m (perfL m) l n).2), (59, yg (cuV m k (lvN m (perfL m) l n).2)), (52, .ifb (β 8) (.tup [itsA (apV m k (lvN m (perfL m) l n).2 (cuV m k (lvN m (perfL m) l n).2)), iv (apE m k (lvN m (perfL m) l n).2 (cuV m k (lvN m (perfL m) l n).2))])), (61, .ifb (β 9) (itsA (apV m k (lvN m (perfL m) l n).2 (cuV m k (lvN m (perfL m) l n).2)))), (62, .ifb (β 10) (iv (apE m k (lvN m (perfL m) l n).2 (cuV m k (lvN m (perfL m) l n).2)))), (2, .ptr 2 0 0 0), (7, yg (perfL m)), (9, .own 5), (10, itsA (lvN m (perfL m) l n).2), (11, iv (n : Int)), (12, yg (cuV m k (lvN m (perfL m) l n).2))], [(2, .box (mnE m) 23), (5, .row intE (lvN m (perfL m) l n).1 3 1)]⟩) (yE) ?_);refine yq (yD (zax rfl rfl rfl (LeL.refl _) (zeB m k (lvN m (perfL m) l n).2 (cuV m k (lvN m (perfL m) l n).2) (by omega) (by omega) (by omega) (by omega))) rfl rfl) (yE)
   ·obtain rfl : (11, [8, 6, 5, 4, 3, 2, 1, 0, 7, 9]) = c := by injection hc
    refine yw rfl (yG (st0 := ⟨[(53, mnA m), (54, yg (perfL m)), (55, iv (n : Int)), (56, .ept intE k 0), (57, iv k), (58, itsA (lvN m (perfL m) l n).2), (59, yg (cuV m k (lvN m (perfL m) l n).2)), (52, .tup [itsA (apV m k (lvN m (perfL m) l n).2 (cuV m k (lvN m (perfL m) l n).2)), iv (apE m k (lvN m (perfL m) l n).2 (cuV m k (lvN m (perfL m) l n).2))]), (61, itsA (apV m k (lvN m (perfL m) l n).2 (cuV m k (lvN m (perfL m) l n).2))), (62, .ifb (β 10) (iv (apE m k (lvN m (perfL m) l n).2 (cuV m k (lvN m (perfL m) l n).2)))), (2, .ptr 2 0 0 0), (7, yg (perfL m)), (9, .own 5), (10, itsA (lvN m (perfL m) l n).2), (11, iv (n : Int)), (12, yg (cuV m k (lvN m (perfL m) l n).2)), (60, .tup [itsA (apV m k (lvN m (perfL m) l n).2 (cuV m k (lvN m (perfL m) l n).2)), iv (apE m k (lvN m (perfL m) l n).2 (cuV m k (lvN m (perfL m) l n).2))])], [(2, .box (mnE m) 23), (5, .row intE (lvN m (perfL m) l n).1 3 1)]⟩) (yE) ?_);refine yq (yD (Pur.stepA yQ) rfl rfl) (yE)
   ·obtain rfl : (12, [9, 8, 7, 6, 5, 4, 3, 2, 1, 0, 11, 10]) = c := by injection hc
    refine yw rfl (yG (st0 := ⟨[(53, mnA m), (54, yg (perfL m)), (55, iv (n : Int)), (56, .ept intE k 0), (57, iv k), (58, itsA (lvN m (perfL m) l n).2), (59, yg (cuV m k (lvN m (perfL m) l n).2)), (52, .tup [itsA (apV m k (lvN m (perfL m) l n).2 (cuV m k (lvN m (perfL m) l n).2)), iv (apE m k (lvN m (perfL m) l n).2 (cuV m k (lvN m (perfL m) l n).2))]), (61, itsA (apV m k (lvN m (perfL m) l n).2 (cuV m k (lvN m (perfL m) l n).2))), (62, iv (apE m k (lvN m (perfL m) l n).2 (cuV m k (lvN m (perfL m) l n).2))), (2, .ptr 2 0 0 0), (7, yg (perfL m)), (9, .own 5), (10, itsA (apV m k (lvN m (perfL m) l n).2 (cuV m k (lvN m (perfL m) l n).2))), (11, iv (n : Int)), (12, yg (cuV m k (lvN m (perfL m) l n).2)), (60, .tup [itsA (apV m k (lvN m (perfL m) l n).2 (cuV m k (lvN m (perfL m) l n).2)), iv (apE m k (lvN m (perfL m) l n).2 (cuV m k (lvN m (perfL m) l n).2))])], [(2, .box (mnE m) 23), (5, .row intE (lvN m (perfL m) l n).1 3 1)]⟩) (yE) ?_);refine yq (yD (Pur.stepA yQ) rfl rfl) (yE)
   ·exact absurd hc (by simp)
  apply yd;apply yb;refine yh ?_;refine yk rfl ?_ ?_<;>intro hc5
  ·exact absurd hap hc5
  apply yf;apply yc;iterate 2 refine ya ?_
  refine yi (hs := zcr (l := (lvN m (perfL m) l n).1) (l2 := (cuV m k (lvN m (perfL m) l n).2)) rfl rfl rfl SlK.h TiK.h (by decide) (by decide) (fun _ => rfl) (fun _ => rfl) (by omega) rfl) ?_;refine ye ?_;refine y3 (st' := ⟨[(2, .ptr 2 0 0 0), (7, yg (perfL m)), (9, .own 5), (10, itsA (apV m k (lvN m (perfL m) l n).2 (cuV m k (lvN m (perfL m) l n).2))), (11, iv (n : Int))], [(2, .box (mnE m) 23), (5, .row intE ((lvN m (perfL m) l n).1 ++ (cuV m k (lvN m (perfL m) l n).2)) 3 1)]⟩) yl ?_;apply yc;refine yp ?_
  refine yL (n + 1) (hJ := by
   exact hJ.s hk h0) (hI := yx)
 ·have hn : n = (perfL m).length := by omega
  have hZ5 := zrp hm hi hJ hn;obtain ⟨hE, hV, hW⟩ := hZ5;apply X.exit;apply yb;refine y4 ?_;refine X.ret ?_;refine yu (Imp.freeze (k := 5) rfl) ?_;refine RetQ.ret (.many (by decide) (.cons (.tmp rfl (LeV.eq ?_)) (.cons (.tmp rfl (LeV.eq ?_)) (.cons (.tmp rfl (LeV.eq ?_)) .nil))));all_goals (first | (rw [hE]; done) | (rw [hV]; done) | (rw [hW]; done) | exact congrArg (fun z => yg z) hV | exact congrArg (fun z => itsA z) hW | exact congrArg (fun z => AV.int .i64 z) hE.symm | (with_reducible rfl))
end Go.Rse
