/-
  Choices at a level, one by one.
  All levels, one by one.
  Walks: the table of the rule and the choice for a segment.
  Walks: the choices of a level by the rule, and by definition.
  Walks: all levels by definition.
-/
import Derived.Test.YtfiiobachmglpaaGreatDoorSLvlD
import Derived.Test.YtfiiobachmglpaaGreatDoorSLevA
import Derived.Test.YtfiiobachmglpaaGreatDoorSLogD
set_option linter.unusedSimpArgs false
set_option linter.unusedVariables false
namespace Go.Rse
open Go Go.Proofs
def muF (m : Mn) (k : Int) (l : List Ite) (n : Nat) : List Int := (mdJ (unT m k) k (segV m k l) l n).getD []
def muI (m : Mn) (k : Int) (l : List Ite) (n : Nat) : Bool := (mdJ (unT m k) k (segV m k l) l n).isSome
section
variable {m : Mn} {k : Int} {l : List Ite} {n : Nat}
theorem mu_0 : muF m k l 0 = [] := rfl
theorem mu_i0 : muI m k l 0 = true := rfl
theorem mu_some (h : muI m k l n = true) : mdJ (unT m k) k (segV m k l) l n = some (muF m k l n) := by
 unfold muI at h
 obtain ⟨M, e⟩ := Option.isSome_iff_exists.1 h
 unfold muF; rw [e]; rfl
theorem mu_len (h : muI m k l n = true) : (muF m k l n).length = n := (mdK_ok (mu_some h)).1
theorem mu_ok (h : muI m k l n = true) : okJ (unT m k) k (segV m k l) l (muF m k l n) (muF m k l n).length = true := by
 rw [mu_len h]; exact (mdK_ok (mu_some h)).2.1
abbrev akF (m : Mn) (k : Int) (l : List Ite) (n : Nat) : List Int := alK (unT m k) k (segV m k l) l (muF m k l n) (muF m k l n).length
theorem mu_t {s : Sgm} {c : Int} (h : muI m k l n = true) (hs : (segV m k l)[n]? = some s) (hc : chF s (akF m k l n) = some c) : muI m k l (n + 1) = true /\ muF m k l n ++ [c] = muF m k l (n + 1) := by
 have h1 := mdK_s (mu_some h)
 unfold akF at hc
 rw [mu_len h] at hc
 rw [show (segV m k l).getD n default = s by rw [List.getD_eq_getElem?_getD, hs]; rfl, hc] at h1
 unfold muI; rw [h1]
 refine ⟨rfl, ?_⟩
 conv => rhs; unfold muF
 rw [h1]; rfl
theorem cu_a (h : ¬ segE m k l = 0) : cuE m k l = segE m k l /\ cuV m k l = [] := by
 have : cuE m k l = segE m k l := by unfold cuE; rw [if_neg h]
 refine ⟨this, ?_⟩; unfold cuV; rw [this, if_neg h]
theorem mu_f {s : Sgm} (h0 : segE m k l = 0) (h : muI m k l n = true) (hs : (segV m k l)[n]? = some s) (hc : chF s (akF m k l n) = none) : cuE m k l = 14 /\ cuV m k l = [] := by
 have h1 := mdK_s (mu_some h)
 unfold akF at hc
 rw [mu_len h] at hc
 rw [show (segV m k l).getD n default = s by rw [List.getD_eq_getElem?_getD, hs]; rfl, hc] at h1
 have hl := (List.getElem?_eq_some_iff.1 hs).1
 have h2 : cuO m k l = none := by
  unfold cuO
  have := mdK_none h1 ((segV m k l).length - (n + 1))
  rwa [show n + 1 + ((segV m k l).length - (n + 1)) = (segV m k l).length by omega] at this
 have : cuE m k l = 14 := by unfold cuE; rw [if_pos h0, h2]; rfl
 refine ⟨this, ?_⟩; unfold cuV; rw [this]; rfl
theorem mu_end (h0 : segE m k l = 0) (h : muI m k l n = true) (hn : n = (segV m k l).length) : cuE m k l = 0 /\ muF m k l n = cuV m k l := by
 have h2 : cuO m k l = some (muF m k l n) := by unfold cuO; rw [← hn]; exact mu_some h
 have : cuE m k l = 0 := by unfold cuE; rw [if_pos h0, h2]; rfl
 refine ⟨this, ?_⟩; unfold cuV; rw [this, h2]; rfl
end
theorem alK_len (u : Tm) (k : Int) (S : List Sgm) (l : List Ite) (M : List Int) (n : Nat) : (alK u k S l M n).length <= 5 := by
 unfold alK alQ alR
 simp only [List.length_append]
 have h : ∀ (p : Prop) [Decidable p] (x : Int), (if p then [x] else []).length <= 1 := fun p _ x => by split <;> simp
 have a1 := h
 refine Nat.le_trans (Nat.add_le_add (Nat.add_le_add (Nat.add_le_add (Nat.add_le_add (h _ _) (h _ _)) (h _ _)) (h _ _)) (h _ _)) (by omega)
end Go.Rse
namespace Go.Rse
open Go Go.Proofs
def lvN (m : Mn) (L : List Int) (l : List Ite) : Nat -> List Int × List Ite
 | 0 => ([], l)
 | n + 1 => ((lvN m L l n).1 ++ cuV m (L.getD n 0) (lvN m L l n).2, apV m (L.getD n 0) (lvN m L l n).2 (cuV m (L.getD n 0) (lvN m L l n).2))
structure LvJ (m : Mn) (L : List Int) (l : List Ite) (n : Nat) : Prop where
 le : n <= L.length
 go : lvF m L l [] = lvF m (L.drop n) (lvN m L l n).2 (lvN m L l n).1
 len : (lvN m L l n).2.length = l.length
 cho : (lvN m L l n).1.length <= n * (2 * l.length + 2)
theorem LvJ.z (m : Mn) (L : List Int) (l : List Ite) : LvJ m L l 0 := ⟨by omega, rfl, rfl, by simp [lvN]⟩
theorem cuV_len {m : Mn} {k : Int} {l : List Ite} : (cuV m k l).length <= 2 * l.length + 2 := by
 by_cases h : cuE m k l = 0
 ·obtain ⟨h0, h1⟩ := cuE_0 h
  unfold cuO at h1
  have := (mdK_ok h1).1
  have := segV_len m k l
  omega
 ·unfold cuV; rw [if_neg h]; simp
theorem apV_len {m : Mn} {k : Int} {l : List Ite} {M : List Int} (h : apE m k l M = 0) : (apV m k l M).length = l.length := by
 unfold apV; rw [if_pos h]; exact stK_len _ _ _ _ _
theorem LvJ.eqs {m : Mn} {L : List Int} {l : List Ite} {n : Nat} {k : Int} (hk : L[n]? = some k) : (lvN m L l n).1 ++ cuV m k (lvN m L l n).2 = (lvN m L l (n + 1)).1 /\ apV m k (lvN m L l n).2 (cuV m k (lvN m L l n).2) = (lvN m L l (n + 1)).2 := by
 have e : L.getD n 0 = k := by rw [List.getD_eq_getElem?_getD, hk]; rfl
 show _ = ((lvN m L l n).1 ++ cuV m (L.getD n 0) (lvN m L l n).2) /\ _ = apV m (L.getD n 0) (lvN m L l n).2 (cuV m (L.getD n 0) (lvN m L l n).2)
 rw [e]; exact ⟨rfl, rfl⟩
theorem LvJ.s {m : Mn} {L : List Int} {l : List Ite} {n : Nat} {k : Int} (h : LvJ m L l n) (hk : L[n]? = some k) (he : cuE m k (lvN m L l n).2 = 0) : LvJ m L l (n + 1) := by
 obtain ⟨e1, e2⟩ := LvJ.eqs (m := m) (l := l) hk
 have hlt := (List.getElem?_eq_some_iff.1 hk).1
 refine ⟨by omega, ?_, ?_, ?_⟩
 ·rw [h.go, lvF_step hk, if_pos he, e1, e2]
 ·rw [← e2, apV_len (cu_ap he), h.len]
 ·rw [← e1, List.length_append, Nat.add_mul, Nat.one_mul]
  have := h.cho
  have := cuV_len (m := m) (k := k) (l := (lvN m L l n).2)
  rw [h.len] at this
  omega
section
variable {m : Mn} {l : List Ite} {n : Nat} {k : Int}
theorem le_a (h : ¬ ckM m = 0) : leE m l = ckM m /\ leC m l = [] /\ leI m l = [] := by
 have : leE m l = ckM m := by unfold leE; rw [if_neg h]
 refine ⟨this, ?_, ?_⟩
 ·unfold leC; rw [this, if_neg h]
 ·unfold leI; rw [this, if_neg h]
theorem le_b (h : ckM m = 0) (h2 : ¬ ckIE l = 0) : leE m l = ckIE l /\ leC m l = [] /\ leI m l = [] := by
 have : leE m l = ckIE l := by unfold leE; rw [if_pos h, if_neg h2]
 refine ⟨this, ?_, ?_⟩
 ·unfold leC; rw [this, if_neg h2]
 ·unfold leI; rw [this, if_neg h2]
theorem le_c (h : ckM m = 0) (h2 : ckIE l = 0) (hJ : LvJ m (perfL m) l n) (hk : (perfL m)[n]? = some k) (he : ¬ cuE m k (lvN m (perfL m) l n).2 = 0) : leE m l = cuE m k (lvN m (perfL m) l n).2 /\ leC m l = [] /\ leI m l = [] := by
 have : leE m l = cuE m k (lvN m (perfL m) l n).2 := by unfold leE; rw [if_pos h, if_pos h2, hJ.go, lvF_step hk, if_neg he]
 refine ⟨this, ?_, ?_⟩
 ·unfold leC; rw [this, if_neg he]
 ·unfold leI; rw [this, if_neg he]
theorem le_d (h : ckM m = 0) (h2 : ckIE l = 0) (hJ : LvJ m (perfL m) l n) (hn : n = (perfL m).length) : leE m l = 0 /\ (lvN m (perfL m) l n).1 = leC m l /\ (lvN m (perfL m) l n).2 = leI m l := by
 have e : lvF m (perfL m) l [] = ((lvN m (perfL m) l n).1, (lvN m (perfL m) l n).2, 0) := by rw [hJ.go, hn, List.drop_length]; rfl
 have : leE m l = 0 := by unfold leE; rw [if_pos h, if_pos h2, e]
 refine ⟨this, ?_, ?_⟩
 ·unfold leC; rw [this, if_pos rfl, e]
 ·unfold leI; rw [this, if_pos rfl, e]
theorem pfl_len (m : Mn) : (perfL m).length <= 4 := by
 unfold perfL; exact List.length_filter_le _ _
theorem pfl_at (hk : (perfL m)[n]? = some k) : 1 <= k /\ k <= 4 := by
 have h := List.mem_of_getElem? hk
 rw [perfL_mem] at h; exact ⟨h.1, h.2.1⟩
end
end Go.Rse
namespace Go.Rse
open Go Go.Proofs
instance : ZcK Tryz.prog 178 [.nilf, .int .i64 0, .int .i64 0] := ⟨⟨_, ze178, rfl⟩⟩
attribute [local irreducible] Pur StepA StepM Ex X ExG Fn Imp LeV LeB FnO It YStep FnW FnOW
theorem ch_hit {L A : List Int} {j : Nat} {c : Int} (hj : L[j]? = some c) (hc : c ∈ A) (h : ∀ i : Nat, i < j -> ∀ d, L[i]? = some d -> d ∉ A) : L.find? (fun c => decide (c ∈ A)) = some c := by
 rw [List.find?_eq_some_iff_append]
 refine ⟨by simpa using hc, L.take j, L.drop (j + 1), ?_, fun a ha => ?_⟩
 ·have hl := (List.getElem?_eq_some_iff.1 hj)
  rw [← hl.2, List.getElem_cons_drop, List.take_append_drop]
 ·obtain ⟨i, hi, e⟩ := List.getElem_of_mem ha
  rw [List.length_take] at hi
  have := h i (by omega) a (by rw [← e, List.getElem_take, List.getElem?_eq_getElem])
  simpa using this
theorem ch_miss {L A : List Int} (h : ∀ i : Nat, i < L.length -> ∀ d, L[i]? = some d -> d ∉ A) : L.find? (fun c => decide (c ∈ A)) = none := by
 rw [List.find?_eq_none]
 intro c hc
 obtain ⟨i, hi, e⟩ := List.getElem_of_mem hc
 have := h i hi c (by rw [← e, List.getElem?_eq_getElem])
 simpa using this
theorem ch_next {L A : List Int} {j : Nat} {c : Int} (hj : L[j]? = some c) (hc : c ∉ A) (h : ∀ i : Nat, i < j -> ∀ d, L[i]? = some d -> d ∉ A) : ∀ i : Nat, i < j + 1 -> ∀ d, L[i]? = some d -> d ∉ A := by
 intro i hi d hd
 by_cases e : i = j
 ·subst e; rw [hj] at hd; injection hd with hd; subst hd; exact hc
 ·exact h i (by omega) d hd
theorem find_two (p : Int -> Bool) (a : Int) : [a, a].find? p = [a].find? p := by
 simp only [List.find?]; cases p a <;> rfl
theorem C_rule_table_1_1 (s : Sgm) (n : Int) (hN : 0 <= s.Count.N) : Fn Tryz.prog 202 [smA s, .ept (fun _ : Unit => [iv n]) () 0] (.bool (decide (s.Count.N % 3 = n))) := by
 refine Fn.go Tryz.func202 Tryz.ntmps202 (fun g w d => ?_)
 apply X.sr
 refine Ex.ba ?_
 refine Ex.pu ?_
 apply Ex.ns
 iterate 7 refine Ex.pu ?_
 apply Ex.nil
 refine X.ret ?_
 refine RetQ.ret (.one (.tmp rfl (LeV.eq ?_)))
 all_goals (first | rfl | (simp_all; done))
theorem C_rule_table_1 (n : Int) : Fn Tryz.prog 201 [iv n] (.fn 202 [.ept (fun _ : Unit => [iv n]) () 0]) := by
 refine Fn.go Tryz.func201 Tryz.ntmps201 (fun g w d => ?_)
 apply X.sr
 refine Ex.bx ?_
 refine Ex.pu ?_
 apply Ex.ns
 iterate 2 refine Ex.pu ?_
 apply Ex.nil
 refine X.ret ?_
 refine RetQ.imp (Imp.freezeBox (k := 1) rfl rfl) ?_
 refine RetQ.ret (.one (.tmp rfl (LeV.eq ?_)))
 all_goals (first | rfl | (simp_all; done))
theorem C_rule_table_2 (s : Sgm) : Fn Tryz.prog 203 [smA s] (.bool s.Free) := by
 refine Fn.go Tryz.func203 Tryz.ntmps203 (fun g w d => ?_)
 apply X.sr
 refine Ex.ba ?_
 refine Ex.pu ?_
 apply Ex.ns
 iterate 3 refine Ex.pu ?_
 apply Ex.nil
 refine X.ret ?_
 refine RetQ.ret (.one (.tmp rfl (LeV.eq ?_)))
 all_goals (first | rfl | (simp_all; done))
theorem C_rule_table_3 (s : Sgm) : Fn Tryz.prog 204 [smA s] (.bool (decide (s.Count.N = 2))) := by
 refine Fn.go Tryz.func204 Tryz.ntmps204 (fun g w d => ?_)
 apply X.sr
 refine Ex.ba ?_
 refine Ex.pu ?_
 apply Ex.ns
 iterate 5 refine Ex.pu ?_
 apply Ex.nil
 refine X.ret ?_
 refine RetQ.ret (.one (.tmp rfl (LeV.eq ?_)))
 all_goals (first | rfl | (simp_all; done))
theorem C_rule_table  : Fn Tryz.prog 127 [] (.agg [.fn 203 [], iv 1, iv 0, .fn 202 [.ept (fun _ : Unit => [iv 0]) () 0], iv 0, iv 0, .fn 202 [.ept (fun _ : Unit => [iv 1]) () 0], iv 1, iv 2, .fn 204 [], iv 4, iv 3, .fn 202 [.ept (fun _ : Unit => [iv 2]) () 0], iv 3, iv 4]) := by
 refine Fn.go Tryz.func127 Tryz.ntmps127 (fun g w d => ?_)
 apply X.sr
 refine Ex.al ?_
 apply Ex.ns
 refine Ex.pu ?_
 apply Ex.ns
 iterate 2 refine Ex.pu ?_
 refine Ex.ca (C_rule_table_1 0) ?_
 iterate 2 refine Ex.pu ?_
 refine Ex.ca (C_rule_table_1 1) ?_
 iterate 3 refine Ex.pu ?_
 refine Ex.ca (C_rule_table_1 2) ?_
 iterate 2 refine Ex.pu ?_
 refine Ex.mo ?_
 apply Ex.nil
 refine X.ret ?_
 refine RetQ.ret (.one (.cellA rfl rfl rfl rfl ty179 (LeV.eq ?_)))
 all_goals (first | rfl | (simp_all; done))
attribute [local irreducible] chF wnL
set_option maxHeartbeats 2000000 in
theorem C_rule_choice (s : Sgm) (A : List Int) (hN : 0 <= s.Count.N) (hA : A.length <= 1000000) : Fn Tryz.prog 65 [smA s, intsA A] (.tup [iv ((chF s A).getD 0), .bool (chF s A).isSome]) := by
 refine Fn.go Tryz.func65 Tryz.ntmps65 (fun g w d => ?_)
 apply X.sr
 refine Ex.ba ?_
 iterate 2 refine Ex.pu ?_
 apply Ex.nil
 apply X.seq
 apply X.sr
 refine Ex.ca C_rule_table ?_
 refine Ex.pu ?_
 apply Ex.nil
 apply X.block
 refine X.lp (ι := Nat) (fun (n : Nat) => [(1, intsA A), (2, .ptr 2 0 0 0), (4, iv 0), (5, .bool false), (10, .agg [.fn 203 [], iv 1, iv 0, .fn 202 [.ept (fun _ : Unit => [iv 0]) () 0], iv 0, iv 0, .fn 202 [.ept (fun _ : Unit => [iv 1]) () 0], iv 1, iv 2, .fn 204 [], iv 4, iv 3, .fn 202 [.ept (fun _ : Unit => [iv 2]) () 0], iv 3, iv 4]), (11, iv (n : Int))]) (fun (n : Nat) => [(2, .box (smE s) 104)]) (fun (n : Nat) => n <= 5 /\ (1 <= n -> ¬ s.Free = true) /\ (2 <= n -> ¬ s.Count.N % 3 = 0) /\ (3 <= n -> ¬ s.Count.N % 3 = 1) /\ (4 <= n -> ¬ s.Count.N = 2) /\ (5 <= n -> ¬ s.Count.N % 3 = 2)) (fun (n : Nat) => 5 - n) 0 (fun n hk => ?_) (hJ := by
  exact ⟨by omega, by omega, by omega, by omega, by omega, by omega⟩)
 obtain ⟨hk1, hk2, hk3, hk4, hk5, hk6⟩ := hk
 apply X.sr
 refine Ex.pu ?_
 apply Ex.nil
 apply X.seq
 refine X.cd rfl (fun hc1 => ?_) (fun hc1 => ?_)
 ·apply X.skip
  apply X.seq
  apply X.block
  apply X.seq
  obtain hn | hn | hn | hn | hn : n = 0 \/ n = 1 \/ n = 2 \/ n = 3 \/ n = 4 := by omega
  ·have hpt : (([.fn 203 [], iv 1, iv 0, .fn 202 [.ept (fun _ : Unit => [iv 0]) () 0], iv 0, iv 0, .fn 202 [.ept (fun _ : Unit => [iv 1]) () 0], iv 1, iv 2, .fn 204 [], iv 4, iv 3, .fn 202 [.ept (fun _ : Unit => [iv 2]) () 0], iv 3, iv 4] : List AV).drop (((n : Nat) : Int).toNat * 3)).take 3 = [.fn 203 [], iv 1, iv 0] := by rw [hn]; rfl
   apply X.region
   refine Ex.pu (hs := by exact P_index_part ArK.h TyK.h rfl rfl (by omega) (by omega) hpt) ?_
   refine Ex.al ?_
   refine Ex.mo ?_
   apply Ex.nil
   apply X.seq
   apply X.sr
   iterate 3 refine Ex.pu ?_
   refine Ex.ca (C_rule_table_2 s) ?_
   refine Ex.pu ?_
   apply Ex.nil
   refine X.cd rfl (fun hc2 => ?_) (fun hc2 => ?_)
   ·have hx0 : ¬ s.Free = true := by first | exact hc2 | (rw [hc2]; decide) | (simp at hc2; simp [hc2]; done) | omega
    apply X.exit
    apply X.region
    iterate 2 refine Ex.pu ?_
    apply Ex.nil
    refine X.bk (n + 1) (hJ := by
     refine ⟨by omega, ?_, ?_, ?_, ?_, ?_⟩ <;> intro h6 <;> first | assumption | (exact absurd h6 (by omega)) | (exact hk2 (by omega)) | (exact hk3 (by omega)) | (exact hk4 (by omega)) | (exact hk5 (by omega)) | (exact hk6 (by omega)))
   have hy : s.Free = true := by first | exact hc2 | (simp at hc2; exact hc2) | omega
   have hW : (wnL s).find? (fun c => decide (c ∈ A)) = [(1 : Int), 0].find? (fun c => decide (c ∈ A)) := by
    have h0 := hk2
    rw [show wnL s = [1, 0] by unfold wnL; simp_all]
   apply X.skip
   apply X.seq
   apply X.sr
   iterate 4 refine Ex.pu ?_
   refine Ex.bs intE [_, _] ?_
   iterate 2 refine Ex.pu ?_
   apply Ex.nil
   apply X.block
   refine X.lp (ι := Nat) (fun (j : Nat) => [(1, intsA A), (2, .ptr 2 0 0 0), (4, iv 0), (5, .bool false), (10, .agg [.fn 203 [], iv 1, iv 0, .fn 202 [.ept (fun _ : Unit => [iv 0]) () 0], iv 0, iv 0, .fn 202 [.ept (fun _ : Unit => [iv 1]) () 0], iv 1, iv 2, .fn 204 [], iv 4, iv 3, .fn 202 [.ept (fun _ : Unit => [iv 2]) () 0], iv 3, iv 4]), (11, iv (n : Int)), (23, .own 23), (24, iv 2), (25, iv (j : Int))]) (fun (j : Nat) => [(2, .box (smE s) 104), (23, .row intE [1, 0] 3 1)]) (fun (j : Nat) => j <= 2 /\ ∀ i : Nat, i < j -> ∀ d, ([1, 0] : List Int)[i]? = some d -> d ∉ A) (fun (j : Nat) => 2 - j) 0 (fun j hk => ?_) (hJ := by
    exact ⟨by omega, fun i hi => absurd hi (by omega)⟩)
   obtain ⟨hj1, hj2⟩ := hk
   apply X.sr
   refine Ex.pu ?_
   apply Ex.nil
   apply X.seq
   refine X.cd rfl (fun hc3 => ?_) (fun hc3 => ?_)
   ·obtain ⟨x, hx⟩ : ∃ x, ([1, 0] : List Int)[j]? = some x := ⟨_, List.getElem?_eq_getElem (by simp; omega)⟩
    have hx2 : ([1, 0] : List Int)[(j : Int).toNat]? = some x := by simpa using hx
    apply X.skip
    apply X.seq
    apply X.block
    apply X.sr
    iterate 3 refine Ex.pu ?_
    apply Ex.ns
    iterate 2 refine Ex.pu ?_
    refine Ex.ca (C_slices_Contains_int_int A x (by omega)) ?_
    apply Ex.nil
    refine X.cd rfl (fun hc4 => ?_) (fun hc4 => ?_)
    ·have hE : chF s A = some x := by unfold chF; rw [hW]; exact ch_hit hx (by simpa using hc4) hj2
     apply X.sr
     iterate 3 refine Ex.pu ?_
     apply Ex.nil
     refine X.ret ?_
     refine RetQ.ret (.many (by decide) (.cons (.tmp rfl (LeV.eq ?_)) (.cons (.tmp rfl (LeV.eq ?_)) .nil)))
     all_goals (rw [hE]; rfl)
    apply X.skip
    apply X.region
    iterate 2 refine Ex.pu ?_
    apply Ex.nil
    refine X.bk (j + 1) (hJ := by
     exact ⟨by omega, ch_next hx (by simpa using hc4) hj2⟩)
   ·have hj3 : j = 2 := by omega
    subst hj3
    have hE : chF s A = none := by unfold chF; rw [hW]; exact ch_miss hj2
    apply X.exit
    apply X.sr
    iterate 2 refine Ex.pu ?_
    apply Ex.nil
    refine X.ret ?_
    refine RetQ.ret (.many (by decide) (.cons (.tmp rfl (LeV.eq ?_)) (.cons (.tmp rfl (LeV.eq ?_)) .nil)))
    all_goals (rw [hE]; rfl)
  ·have hpt : (([.fn 203 [], iv 1, iv 0, .fn 202 [.ept (fun _ : Unit => [iv 0]) () 0], iv 0, iv 0, .fn 202 [.ept (fun _ : Unit => [iv 1]) () 0], iv 1, iv 2, .fn 204 [], iv 4, iv 3, .fn 202 [.ept (fun _ : Unit => [iv 2]) () 0], iv 3, iv 4] : List AV).drop (((n : Nat) : Int).toNat * 3)).take 3 = [.fn 202 [.ept (fun _ : Unit => [iv 0]) () 0], iv 0, iv 0] := by rw [hn]; rfl
   apply X.region
   refine Ex.pu (hs := by exact P_index_part ArK.h TyK.h rfl rfl (by omega) (by omega) hpt) ?_
   refine Ex.al ?_
   refine Ex.mo ?_
   apply Ex.nil
   apply X.seq
   apply X.sr
   iterate 3 refine Ex.pu ?_
   refine Ex.ca (C_rule_table_1_1 s 0 hN) ?_
   refine Ex.pu ?_
   apply Ex.nil
   refine X.cd rfl (fun hc5 => ?_) (fun hc5 => ?_)
   ·have hx1 : ¬ s.Count.N % 3 = 0 := by first | exact hc5 | (rw [hc5]; decide) | (simp at hc5; simp [hc5]; done) | omega
    apply X.exit
    apply X.region
    iterate 2 refine Ex.pu ?_
    apply Ex.nil
    refine X.bk (n + 1) (hJ := by
     refine ⟨by omega, ?_, ?_, ?_, ?_, ?_⟩ <;> intro h6 <;> first | assumption | (exact absurd h6 (by omega)) | (exact hk2 (by omega)) | (exact hk3 (by omega)) | (exact hk4 (by omega)) | (exact hk5 (by omega)) | (exact hk6 (by omega)))
   have hy : s.Count.N % 3 = 0 := by first | exact hc5 | (simp at hc5; exact hc5) | omega
   have hW : (wnL s).find? (fun c => decide (c ∈ A)) = [(0 : Int), 0].find? (fun c => decide (c ∈ A)) := by
    have h0 := hk2
    rw [find_two, show wnL s = [0] by unfold wnL; simp_all]
   apply X.skip
   apply X.seq
   apply X.sr
   iterate 4 refine Ex.pu ?_
   refine Ex.bs intE [_, _] ?_
   iterate 2 refine Ex.pu ?_
   apply Ex.nil
   apply X.block
   refine X.lp (ι := Nat) (fun (j : Nat) => [(1, intsA A), (2, .ptr 2 0 0 0), (4, iv 0), (5, .bool false), (10, .agg [.fn 203 [], iv 1, iv 0, .fn 202 [.ept (fun _ : Unit => [iv 0]) () 0], iv 0, iv 0, .fn 202 [.ept (fun _ : Unit => [iv 1]) () 0], iv 1, iv 2, .fn 204 [], iv 4, iv 3, .fn 202 [.ept (fun _ : Unit => [iv 2]) () 0], iv 3, iv 4]), (11, iv (n : Int)), (23, .own 23), (24, iv 2), (25, iv (j : Int))]) (fun (j : Nat) => [(2, .box (smE s) 104), (23, .row intE [0, 0] 3 1)]) (fun (j : Nat) => j <= 2 /\ ∀ i : Nat, i < j -> ∀ d, ([0, 0] : List Int)[i]? = some d -> d ∉ A) (fun (j : Nat) => 2 - j) 0 (fun j hk => ?_) (hJ := by
    exact ⟨by omega, fun i hi => absurd hi (by omega)⟩)
   obtain ⟨hj1, hj2⟩ := hk
   apply X.sr
   refine Ex.pu ?_
   apply Ex.nil
   apply X.seq
   refine X.cd rfl (fun hc6 => ?_) (fun hc6 => ?_)
   ·obtain ⟨x, hx⟩ : ∃ x, ([0, 0] : List Int)[j]? = some x := ⟨_, List.getElem?_eq_getElem (by simp; omega)⟩
    have hx2 : ([0, 0] : List Int)[(j : Int).toNat]? = some x := by simpa using hx
    apply X.skip
    apply X.seq
    apply X.block
    apply X.sr
    iterate 3 refine Ex.pu ?_
    apply Ex.ns
    iterate 2 refine Ex.pu ?_
    refine Ex.ca (C_slices_Contains_int_int A x (by omega)) ?_
    apply Ex.nil
    refine X.cd rfl (fun hc7 => ?_) (fun hc7 => ?_)
    ·have hE : chF s A = some x := by unfold chF; rw [hW]; exact ch_hit hx (by simpa using hc7) hj2
     apply X.sr
     iterate 3 refine Ex.pu ?_
     apply Ex.nil
     refine X.ret ?_
     refine RetQ.ret (.many (by decide) (.cons (.tmp rfl (LeV.eq ?_)) (.cons (.tmp rfl (LeV.eq ?_)) .nil)))
     all_goals (rw [hE]; rfl)
    apply X.skip
    apply X.region
    iterate 2 refine Ex.pu ?_
    apply Ex.nil
    refine X.bk (j + 1) (hJ := by
     exact ⟨by omega, ch_next hx (by simpa using hc7) hj2⟩)
   ·have hj3 : j = 2 := by omega
    subst hj3
    have hE : chF s A = none := by unfold chF; rw [hW]; exact ch_miss hj2
    apply X.exit
    apply X.sr
    iterate 2 refine Ex.pu ?_
    apply Ex.nil
    refine X.ret ?_
    refine RetQ.ret (.many (by decide) (.cons (.tmp rfl (LeV.eq ?_)) (.cons (.tmp rfl (LeV.eq ?_)) .nil)))
    all_goals (rw [hE]; rfl)
  ·have hpt : (([.fn 203 [], iv 1, iv 0, .fn 202 [.ept (fun _ : Unit => [iv 0]) () 0], iv 0, iv 0, .fn 202 [.ept (fun _ : Unit => [iv 1]) () 0], iv 1, iv 2, .fn 204 [], iv 4, iv 3, .fn 202 [.ept (fun _ : Unit => [iv 2]) () 0], iv 3, iv 4] : List AV).drop (((n : Nat) : Int).toNat * 3)).take 3 = [.fn 202 [.ept (fun _ : Unit => [iv 1]) () 0], iv 1, iv 2] := by rw [hn]; rfl
   apply X.region
   refine Ex.pu (hs := by exact P_index_part ArK.h TyK.h rfl rfl (by omega) (by omega) hpt) ?_
   refine Ex.al ?_
   refine Ex.mo ?_
   apply Ex.nil
   apply X.seq
   apply X.sr
   iterate 3 refine Ex.pu ?_
   refine Ex.ca (C_rule_table_1_1 s 1 hN) ?_
   refine Ex.pu ?_
   apply Ex.nil
   refine X.cd rfl (fun hc8 => ?_) (fun hc8 => ?_)
   ·have hx2 : ¬ s.Count.N % 3 = 1 := by first | exact hc8 | (rw [hc8]; decide) | (simp at hc8; simp [hc8]; done) | omega
    apply X.exit
    apply X.region
    iterate 2 refine Ex.pu ?_
    apply Ex.nil
    refine X.bk (n + 1) (hJ := by
     refine ⟨by omega, ?_, ?_, ?_, ?_, ?_⟩ <;> intro h6 <;> first | assumption | (exact absurd h6 (by omega)) | (exact hk2 (by omega)) | (exact hk3 (by omega)) | (exact hk4 (by omega)) | (exact hk5 (by omega)) | (exact hk6 (by omega)))
   have hy : s.Count.N % 3 = 1 := by first | exact hc8 | (simp at hc8; exact hc8) | omega
   have hW : (wnL s).find? (fun c => decide (c ∈ A)) = [(1 : Int), 2].find? (fun c => decide (c ∈ A)) := by
    have h0 := hk2
    rw [show wnL s = [1, 2] by unfold wnL; simp_all]
   apply X.skip
   apply X.seq
   apply X.sr
   iterate 4 refine Ex.pu ?_
   refine Ex.bs intE [_, _] ?_
   iterate 2 refine Ex.pu ?_
   apply Ex.nil
   apply X.block
   refine X.lp (ι := Nat) (fun (j : Nat) => [(1, intsA A), (2, .ptr 2 0 0 0), (4, iv 0), (5, .bool false), (10, .agg [.fn 203 [], iv 1, iv 0, .fn 202 [.ept (fun _ : Unit => [iv 0]) () 0], iv 0, iv 0, .fn 202 [.ept (fun _ : Unit => [iv 1]) () 0], iv 1, iv 2, .fn 204 [], iv 4, iv 3, .fn 202 [.ept (fun _ : Unit => [iv 2]) () 0], iv 3, iv 4]), (11, iv (n : Int)), (23, .own 23), (24, iv 2), (25, iv (j : Int))]) (fun (j : Nat) => [(2, .box (smE s) 104), (23, .row intE [1, 2] 3 1)]) (fun (j : Nat) => j <= 2 /\ ∀ i : Nat, i < j -> ∀ d, ([1, 2] : List Int)[i]? = some d -> d ∉ A) (fun (j : Nat) => 2 - j) 0 (fun j hk => ?_) (hJ := by
    exact ⟨by omega, fun i hi => absurd hi (by omega)⟩)
   obtain ⟨hj1, hj2⟩ := hk
   apply X.sr
   refine Ex.pu ?_
   apply Ex.nil
   apply X.seq
   refine X.cd rfl (fun hc9 => ?_) (fun hc9 => ?_)
   ·obtain ⟨x, hx⟩ : ∃ x, ([1, 2] : List Int)[j]? = some x := ⟨_, List.getElem?_eq_getElem (by simp; omega)⟩
    have hx2 : ([1, 2] : List Int)[(j : Int).toNat]? = some x := by simpa using hx
    apply X.skip
    apply X.seq
    apply X.block
    apply X.sr
    iterate 3 refine Ex.pu ?_
    apply Ex.ns
    iterate 2 refine Ex.pu ?_
    refine Ex.ca (C_slices_Contains_int_int A x (by omega)) ?_
    apply Ex.nil
    refine X.cd rfl (fun hc10 => ?_) (fun hc10 => ?_)
    ·have hE : chF s A = some x := by unfold chF; rw [hW]; exact ch_hit hx (by simpa using hc10) hj2
     apply X.sr
     iterate 3 refine Ex.pu ?_
     apply Ex.nil
     refine X.ret ?_
     refine RetQ.ret (.many (by decide) (.cons (.tmp rfl (LeV.eq ?_)) (.cons (.tmp rfl (LeV.eq ?_)) .nil)))
     all_goals (rw [hE]; rfl)
    apply X.skip
    apply X.region
    iterate 2 refine Ex.pu ?_
    apply Ex.nil
    refine X.bk (j + 1) (hJ := by
     exact ⟨by omega, ch_next hx (by simpa using hc10) hj2⟩)
   ·have hj3 : j = 2 := by omega
    subst hj3
    have hE : chF s A = none := by unfold chF; rw [hW]; exact ch_miss hj2
    apply X.exit
    apply X.sr
    iterate 2 refine Ex.pu ?_
    apply Ex.nil
    refine X.ret ?_
    refine RetQ.ret (.many (by decide) (.cons (.tmp rfl (LeV.eq ?_)) (.cons (.tmp rfl (LeV.eq ?_)) .nil)))
    all_goals (rw [hE]; rfl)
  ·have hpt : (([.fn 203 [], iv 1, iv 0, .fn 202 [.ept (fun _ : Unit => [iv 0]) () 0], iv 0, iv 0, .fn 202 [.ept (fun _ : Unit => [iv 1]) () 0], iv 1, iv 2, .fn 204 [], iv 4, iv 3, .fn 202 [.ept (fun _ : Unit => [iv 2]) () 0], iv 3, iv 4] : List AV).drop (((n : Nat) : Int).toNat * 3)).take 3 = [.fn 204 [], iv 4, iv 3] := by rw [hn]; rfl
   apply X.region
   refine Ex.pu (hs := by exact P_index_part ArK.h TyK.h rfl rfl (by omega) (by omega) hpt) ?_
   refine Ex.al ?_
   refine Ex.mo ?_
   apply Ex.nil
   apply X.seq
   apply X.sr
   iterate 3 refine Ex.pu ?_
   refine Ex.ca (C_rule_table_3 s) ?_
   refine Ex.pu ?_
   apply Ex.nil
   refine X.cd rfl (fun hc11 => ?_) (fun hc11 => ?_)
   ·have hx3 : ¬ s.Count.N = 2 := by first | exact hc11 | (rw [hc11]; decide) | (simp at hc11; simp [hc11]; done) | omega
    apply X.exit
    apply X.region
    iterate 2 refine Ex.pu ?_
    apply Ex.nil
    refine X.bk (n + 1) (hJ := by
     refine ⟨by omega, ?_, ?_, ?_, ?_, ?_⟩ <;> intro h6 <;> first | assumption | (exact absurd h6 (by omega)) | (exact hk2 (by omega)) | (exact hk3 (by omega)) | (exact hk4 (by omega)) | (exact hk5 (by omega)) | (exact hk6 (by omega)))
   have hy : s.Count.N = 2 := by first | exact hc11 | (simp at hc11; exact hc11) | omega
   have hW : (wnL s).find? (fun c => decide (c ∈ A)) = [(4 : Int), 3].find? (fun c => decide (c ∈ A)) := by
    have h0 := hk2
    rw [show wnL s = [4, 3] by unfold wnL; simp_all]
   apply X.skip
   apply X.seq
   apply X.sr
   iterate 4 refine Ex.pu ?_
   refine Ex.bs intE [_, _] ?_
   iterate 2 refine Ex.pu ?_
   apply Ex.nil
   apply X.block
   refine X.lp (ι := Nat) (fun (j : Nat) => [(1, intsA A), (2, .ptr 2 0 0 0), (4, iv 0), (5, .bool false), (10, .agg [.fn 203 [], iv 1, iv 0, .fn 202 [.ept (fun _ : Unit => [iv 0]) () 0], iv 0, iv 0, .fn 202 [.ept (fun _ : Unit => [iv 1]) () 0], iv 1, iv 2, .fn 204 [], iv 4, iv 3, .fn 202 [.ept (fun _ : Unit => [iv 2]) () 0], iv 3, iv 4]), (11, iv (n : Int)), (23, .own 23), (24, iv 2), (25, iv (j : Int))]) (fun (j : Nat) => [(2, .box (smE s) 104), (23, .row intE [4, 3] 3 1)]) (fun (j : Nat) => j <= 2 /\ ∀ i : Nat, i < j -> ∀ d, ([4, 3] : List Int)[i]? = some d -> d ∉ A) (fun (j : Nat) => 2 - j) 0 (fun j hk => ?_) (hJ := by
    exact ⟨by omega, fun i hi => absurd hi (by omega)⟩)
   obtain ⟨hj1, hj2⟩ := hk
   apply X.sr
   refine Ex.pu ?_
   apply Ex.nil
   apply X.seq
   refine X.cd rfl (fun hc12 => ?_) (fun hc12 => ?_)
   ·obtain ⟨x, hx⟩ : ∃ x, ([4, 3] : List Int)[j]? = some x := ⟨_, List.getElem?_eq_getElem (by simp; omega)⟩
    have hx2 : ([4, 3] : List Int)[(j : Int).toNat]? = some x := by simpa using hx
    apply X.skip
    apply X.seq
    apply X.block
    apply X.sr
    iterate 3 refine Ex.pu ?_
    apply Ex.ns
    iterate 2 refine Ex.pu ?_
    refine Ex.ca (C_slices_Contains_int_int A x (by omega)) ?_
    apply Ex.nil
    refine X.cd rfl (fun hc13 => ?_) (fun hc13 => ?_)
    ·have hE : chF s A = some x := by unfold chF; rw [hW]; exact ch_hit hx (by simpa using hc13) hj2
     apply X.sr
     iterate 3 refine Ex.pu ?_
     apply Ex.nil
     refine X.ret ?_
     refine RetQ.ret (.many (by decide) (.cons (.tmp rfl (LeV.eq ?_)) (.cons (.tmp rfl (LeV.eq ?_)) .nil)))
     all_goals (rw [hE]; rfl)
    apply X.skip
    apply X.region
    iterate 2 refine Ex.pu ?_
    apply Ex.nil
    refine X.bk (j + 1) (hJ := by
     exact ⟨by omega, ch_next hx (by simpa using hc13) hj2⟩)
   ·have hj3 : j = 2 := by omega
    subst hj3
    have hE : chF s A = none := by unfold chF; rw [hW]; exact ch_miss hj2
    apply X.exit
    apply X.sr
    iterate 2 refine Ex.pu ?_
    apply Ex.nil
    refine X.ret ?_
    refine RetQ.ret (.many (by decide) (.cons (.tmp rfl (LeV.eq ?_)) (.cons (.tmp rfl (LeV.eq ?_)) .nil)))
    all_goals (rw [hE]; rfl)
  ·have hpt : (([.fn 203 [], iv 1, iv 0, .fn 202 [.ept (fun _ : Unit => [iv 0]) () 0], iv 0, iv 0, .fn 202 [.ept (fun _ : Unit => [iv 1]) () 0], iv 1, iv 2, .fn 204 [], iv 4, iv 3, .fn 202 [.ept (fun _ : Unit => [iv 2]) () 0], iv 3, iv 4] : List AV).drop (((n : Nat) : Int).toNat * 3)).take 3 = [.fn 202 [.ept (fun _ : Unit => [iv 2]) () 0], iv 3, iv 4] := by rw [hn]; rfl
   apply X.region
   refine Ex.pu (hs := by exact P_index_part ArK.h TyK.h rfl rfl (by omega) (by omega) hpt) ?_
   refine Ex.al ?_
   refine Ex.mo ?_
   apply Ex.nil
   apply X.seq
   apply X.sr
   iterate 3 refine Ex.pu ?_
   refine Ex.ca (C_rule_table_1_1 s 2 hN) ?_
   refine Ex.pu ?_
   apply Ex.nil
   refine X.cd rfl (fun hc14 => ?_) (fun hc14 => ?_)
   ·have hx4 : ¬ s.Count.N % 3 = 2 := by first | exact hc14 | (rw [hc14]; decide) | (simp at hc14; simp [hc14]; done) | omega
    apply X.exit
    apply X.region
    iterate 2 refine Ex.pu ?_
    apply Ex.nil
    refine X.bk (n + 1) (hJ := by
     refine ⟨by omega, ?_, ?_, ?_, ?_, ?_⟩ <;> intro h6 <;> first | assumption | (exact absurd h6 (by omega)) | (exact hk2 (by omega)) | (exact hk3 (by omega)) | (exact hk4 (by omega)) | (exact hk5 (by omega)) | (exact hk6 (by omega)))
   have hy : s.Count.N % 3 = 2 := by first | exact hc14 | (simp at hc14; exact hc14) | omega
   have hW : (wnL s).find? (fun c => decide (c ∈ A)) = [(3 : Int), 4].find? (fun c => decide (c ∈ A)) := by
    have h0 := hk2
    rw [show wnL s = [3, 4] by unfold wnL; simp_all]
   apply X.skip
   apply X.seq
   apply X.sr
   iterate 4 refine Ex.pu ?_
   refine Ex.bs intE [_, _] ?_
   iterate 2 refine Ex.pu ?_
   apply Ex.nil
   apply X.block
   refine X.lp (ι := Nat) (fun (j : Nat) => [(1, intsA A), (2, .ptr 2 0 0 0), (4, iv 0), (5, .bool false), (10, .agg [.fn 203 [], iv 1, iv 0, .fn 202 [.ept (fun _ : Unit => [iv 0]) () 0], iv 0, iv 0, .fn 202 [.ept (fun _ : Unit => [iv 1]) () 0], iv 1, iv 2, .fn 204 [], iv 4, iv 3, .fn 202 [.ept (fun _ : Unit => [iv 2]) () 0], iv 3, iv 4]), (11, iv (n : Int)), (23, .own 23), (24, iv 2), (25, iv (j : Int))]) (fun (j : Nat) => [(2, .box (smE s) 104), (23, .row intE [3, 4] 3 1)]) (fun (j : Nat) => j <= 2 /\ ∀ i : Nat, i < j -> ∀ d, ([3, 4] : List Int)[i]? = some d -> d ∉ A) (fun (j : Nat) => 2 - j) 0 (fun j hk => ?_) (hJ := by
    exact ⟨by omega, fun i hi => absurd hi (by omega)⟩)
   obtain ⟨hj1, hj2⟩ := hk
   apply X.sr
   refine Ex.pu ?_
   apply Ex.nil
   apply X.seq
   refine X.cd rfl (fun hc15 => ?_) (fun hc15 => ?_)
   ·obtain ⟨x, hx⟩ : ∃ x, ([3, 4] : List Int)[j]? = some x := ⟨_, List.getElem?_eq_getElem (by simp; omega)⟩
    have hx2 : ([3, 4] : List Int)[(j : Int).toNat]? = some x := by simpa using hx
    apply X.skip
    apply X.seq
    apply X.block
    apply X.sr
    iterate 3 refine Ex.pu ?_
    apply Ex.ns
    iterate 2 refine Ex.pu ?_
    refine Ex.ca (C_slices_Contains_int_int A x (by omega)) ?_
    apply Ex.nil
    refine X.cd rfl (fun hc16 => ?_) (fun hc16 => ?_)
    ·have hE : chF s A = some x := by unfold chF; rw [hW]; exact ch_hit hx (by simpa using hc16) hj2
     apply X.sr
     iterate 3 refine Ex.pu ?_
     apply Ex.nil
     refine X.ret ?_
     refine RetQ.ret (.many (by decide) (.cons (.tmp rfl (LeV.eq ?_)) (.cons (.tmp rfl (LeV.eq ?_)) .nil)))
     all_goals (rw [hE]; rfl)
    apply X.skip
    apply X.region
    iterate 2 refine Ex.pu ?_
    apply Ex.nil
    refine X.bk (j + 1) (hJ := by
     exact ⟨by omega, ch_next hx (by simpa using hc16) hj2⟩)
   ·have hj3 : j = 2 := by omega
    subst hj3
    have hE : chF s A = none := by unfold chF; rw [hW]; exact ch_miss hj2
    apply X.exit
    apply X.sr
    iterate 2 refine Ex.pu ?_
    apply Ex.nil
    refine X.ret ?_
    refine RetQ.ret (.many (by decide) (.cons (.tmp rfl (LeV.eq ?_)) (.cons (.tmp rfl (LeV.eq ?_)) .nil)))
    all_goals (rw [hE]; rfl)
 ·exfalso; have a := hk3 (by omega); have b := hk4 (by omega); have c := hk6 (by omega); omega
end Go.Rse
namespace Go.Rse
open Go Go.Proofs
attribute [local irreducible] Pur StepA StepM Ex X ExG Fn Imp LeV LeB FnO It YStep FnW FnOW
theorem ch_some {s : Sgm} {A : List Int} (h : (chF s A).isSome = true) : chF s A = some ((chF s A).getD 0) := by
 cases hc : chF s A with
 | none => rw [hc] at h; cases h
 | some c => rfl
attribute [local irreducible] stK okJ alK alQ segV segE unT muF muI chF wnL cuE cuV cuO mdJ
set_option maxHeartbeats 2000000 in
theorem C_rule_Choose (m : Mn) (k : Int) (l : List Ite) (h0 : -9223372036854775808 <= k) (h1 : k <= 9223372036854775807) (hl : l.length <= 1000000) : Fn Tryz.prog 18 [mnA m, iv k, itsA l] (.tup [intsA (cuV m k l), iv (cuE m k l)]) := by
 have hbl := segV_len m k l
 refine Fn.go Tryz.func18 Tryz.ntmps18 (fun g w d => ?_)
 apply X.sr
 refine Ex.ba ?_
 iterate 2 refine Ex.pu ?_
 apply Ex.ns
 iterate 3 refine Ex.pu ?_
 refine Ex.ca (C_level_Segments m k l h0 h1 hl) ?_
 iterate 5 refine Ex.pu ?_
 apply Ex.nil
 apply X.seq
 apply X.sr
 iterate 2 refine Ex.pu ?_
 apply Ex.nil
 refine X.cd rfl (fun hc1 => ?_) (fun hc1 => ?_)
 ·have hZ1 := cu_a hc1
  obtain ⟨hE, hV⟩ := hZ1
  apply X.sr
  iterate 3 refine Ex.pu ?_
  apply Ex.nil
  refine X.ret ?_
  refine RetQ.imp (Imp.au (ts := [(6, intsA []), (7, iv (segE m k l))]) (hs := [])) ?_
  refine RetQ.ret (.many (by decide) (.cons (.tmp rfl (LeV.eq ?_)) (.cons (.tmp rfl (LeV.eq ?_)) .nil)))
  all_goals (first | (rw [hE]; done) | (rw [hV]; done) | exact congrArg (fun z => intsA z) hV | exact congrArg (fun z => AV.int .i64 z) hE.symm | (with_reducible rfl))
 have h00 : segE m k l = 0 := by omega
 have hz0 : [] = muF m k l 0 := mu_0.symm
 apply X.skip
 apply X.sr
 refine Ex.pu ?_
 apply Ex.nil
 apply X.seq
 apply X.seq
 refine X.imp (Imp.mkrow intE 3 1 10 5 rfl rfl) ?_
 apply X.region
 iterate 3 refine Ex.pu ?_
 apply Ex.nil
 apply X.block
 refine X.lp (ι := Nat) (fun (n : Nat) => [(1, iv k), (2, itsA l), (3, .ptr 3 0 0 0), (10, .own 5), (27, smsA (segV m k l)), (28, iv (segV m k l).length), (29, iv (n : Int))]) (fun (n : Nat) => [(3, .box (mnE m) 23), (5, .row intE (muF m k l n) 3 1)]) (fun (n : Nat) => n <= (segV m k l).length /\ muI m k l n = true) (fun (n : Nat) => (segV m k l).length - n) 0 (fun n hk => ?_) (hJ := by
  exact ⟨by omega, mu_i0⟩) (h0 := by
  exact Imp.ax)
 obtain ⟨hk1, hk2⟩ := hk
 apply X.sr
 refine Ex.pu ?_
 apply Ex.nil
 apply X.seq
 refine X.cd rfl (fun hc2 => ?_) (fun hc2 => ?_)
 ·obtain ⟨s, hs⟩ : ∃ s, (segV m k l)[n]? = some s := ⟨_, List.getElem?_eq_getElem (by omega)⟩
  have hs2 : (segV m k l)[(n : Int).toNat]? = some s := by simpa using hs
  have hsN := sgV_nn m k l s (List.mem_of_getElem? hs)
  have hLn := mu_len hk2
  have hAl := alK_len (unT m k) k (segV m k l) l (muF m k l n) (muF m k l n).length
  apply X.skip
  apply X.seq
  apply X.block
  apply X.sr
  iterate 2 refine Ex.pu ?_
  refine Ex.al ?_
  refine Ex.mo ?_
  apply Ex.ns
  iterate 4 refine Ex.pu ?_
  refine Ex.stepA (A_lendT (stF := ⟨[(34, mnA m), (35, iv k), (36, itsA l), (37, intsA (muF m k l n))], []⟩) 38 ((Imp.freeze (k := 5) rfl).trans Imp.au) (C_level_Allowed_o m k l (muF m k l n) h0 h1 (by omega) (by omega) (hE := h00) (hX := by simp; omega) (hok := mu_ok hk2) (hN := sgV_nn m k l) (hMS := by omega))) rfl rfl ?_
  iterate 5 refine Ex.pu ?_
  apply Ex.nil
  apply X.seq
  apply X.sr
  iterate 2 refine Ex.pu ?_
  apply Ex.nil
  refine X.cd rfl (fun hc3 => ?_) (fun hc3 => ?_)
  ·exact absurd rfl hc3
  apply X.skip
  apply X.seq
  refine X.imp (Imp.freeze (k := 38) rfl) ?_
  apply X.region
  iterate 2 refine Ex.pu ?_
  refine Ex.ca (C_rule_choice s (akF m k l n) hsN (by unfold akF; omega)) ?_
  iterate 5 refine Ex.pu ?_
  apply Ex.nil
  apply X.seq
  apply X.sr
  iterate 2 refine Ex.pu ?_
  apply Ex.nil
  refine X.cd rfl (fun hc4 => ?_) (fun hc4 => ?_)
  ·have hC : chF s (akF m k l n) = none := by first | exact hc4 | simpa using hc4
   have hZ2 := mu_f h00 hk2 hs hC
   obtain ⟨hE, hV⟩ := hZ2
   apply X.sr
   iterate 2 refine Ex.pu ?_
   apply Ex.nil
   refine X.ret ?_
   refine RetQ.imp (Imp.au (ts := [(6, intsA []), (7, iv 14)]) (hs := [])) ?_
   refine RetQ.ret (.many (by decide) (.cons (.tmp rfl (LeV.eq ?_)) (.cons (.tmp rfl (LeV.eq ?_)) .nil)))
   all_goals (first | (rw [hE]; done) | (rw [hV]; done) | exact congrArg (fun z => intsA z) hV | exact congrArg (fun z => AV.int .i64 z) hE.symm | (with_reducible rfl))
  have hC := ch_some hc4
  have hZ3 := mu_t hk2 hs hC
  obtain ⟨hI, hst⟩ := hZ3
  apply X.skip
  apply X.region
  iterate 2 refine Ex.pu ?_
  refine Ex.bs intE [_] ?_
  refine Ex.mo ?_
  refine Ex.pu ?_
  apply Ex.nil
  apply X.region
  iterate 2 refine Ex.pu ?_
  apply Ex.nil
  refine X.bk (n + 1) (hJ := by
   exact ⟨by omega, hI⟩) (hI := Imp.ax)
 ·have hn : n = (segV m k l).length := by omega
  have hZ4 := mu_end h00 hk2 hn
  obtain ⟨hE, hV⟩ := hZ4
  apply X.exit
  apply X.sr
  iterate 3 refine Ex.pu ?_
  apply Ex.nil
  refine X.ret ?_
  refine RetQ.imp (Imp.freeze (k := 5) rfl) ?_
  refine RetQ.ret (.many (by decide) (.cons (.tmp rfl (LeV.eq ?_)) (.cons (.tmp rfl (LeV.eq ?_)) .nil)))
  all_goals (first | (rw [hE]; done) | (rw [hV]; done) | exact congrArg (fun z => intsA z) hV | exact congrArg (fun z => AV.int .i64 z) hE.symm | (with_reducible rfl))
end Go.Rse
namespace Go.Rse
open Go Go.Proofs
attribute [local irreducible] Pur StepA StepM Ex X ExG Fn Imp LeV LeB FnO It YStep FnW FnOW
attribute [local irreducible] cuV cuE apV apE leE leC leI lvN lvF ckM perfL ckIE ckIX
end Go.Rse
