/-
  Walks: the reference for spellings: all spellings of a time, all times.
-/
import Derived.Test.YteecbmgddacioaaLaw22c
import Derived.Test.YteecbmgddacioaaRef22c
namespace Go.Rse
open Go Go.Proofs
set_option linter.unusedVariables false
set_option linter.unusedSimpArgs false
attribute [local irreducible] Pur StepA StepM Ex X ExG Fn Imp LeV LeB FnO It YStep
def mdB (m : Mn) (v : Int) : Bool := (List.range 8).all fun i => sameB (wdL m v (1 + i)) (mdL m v (1 + (i : Int))) && decide ((mdL m v (1 + (i : Int))).length ≤ 81)
theorem mdB_all : ckAll mdB = true := by kernel_rfl
theorem md_law {m : Mn} {v : Int} (hm : ckM m = 0) (h1 : 1 ≤ v) (h8 : v ≤ 8) {i : Nat} (hi : i < 8) : (∀ x, x ∈ mdL m v (1 + (i : Int)) ↔ x ∈ wdL m v (1 + (i : Int)).toNat) ∧ (mdL m v (1 + (i : Int))).Pairwise ltT ∧ (mdL m v (1 + (i : Int))).length ≤ 81 := by
  have h := List.all_eq_true.1 (show (List.range 8).all _ = true from ckAll_use mdB_all hm h1 h8) i (List.mem_range.2 hi)
  rw [Bool.and_eq_true] at h
  have h2 := h.1
  unfold sameB at h2
  simp only [Bool.and_eq_true, List.all_eq_true, decide_eq_true_eq] at h2
  rw [show (1 + (i : Int)).toNat = 1 + i by omega]
  exact ⟨fun x => ⟨h2.1.2 x, fun hx => (h2.1.1 x hx).2⟩, h2.2, of_decide_eq_true h.2⟩
def rtI (m : Mn) (v : Int) (X : List Tm) : Nat → List Tm
  | 0 => X
  | n + 1 => (mdL m v (1 + (n : Int))).foldl insT (rtI m v X n)
def rtO (m : Mn) : Nat → List Tm
  | 0 => []
  | k + 1 => rtI m (1 + (k : Int)) (rtO m k) 8
def rtB (m : Mn) (v : Int) : Bool := if v = 1 then sameB (tiO m 8) (rtO m 8) else true
theorem rtB_all : ckAll rtB = true := by kernel_rfl
theorem rt_law {m : Mn} (hm : ckM m = 0) : rtO m 8 = timV m := by
  have h := ckAll_use rtB_all hm (v := 1) (by decide) (by decide)
  unfold rtB at h
  rw [if_pos rfl] at h
  rw [(tab_law hm).1, srtT_b h]
theorem rtI_len {m : Mn} {v : Int} (hm : ckM m = 0) (h1 : 1 ≤ v) (h8 : v ≤ 8) (X : List Tm) : ∀ n, n ≤ 8 → (rtI m v X n).length ≤ X.length + n * 81
  | 0, _ => by simp [rtI]
  | n + 1, hn => by
    have h1 := rtI_len hm h1 h8 X n (by omega)
    have h2 := (md_law hm (by assumption) h8 (i := n) (by omega)).2.2
    have h3 := foldI_len (mdL m v (1 + (n : Int))) (rtI m v X n)
    unfold rtI; omega
theorem rtO_len {m : Mn} (hm : ckM m = 0) : ∀ k, k ≤ 8 → (rtO m k).length ≤ k * 648
  | 0, _ => by simp [rtO]
  | k + 1, hk => by
    have h1 := rtO_len hm k (by omega)
    have h2 := rtI_len hm (show 1 ≤ 1 + (k : Int) by omega) (by omega) (rtO m k) 8 (Nat.le_refl _)
    unfold rtO; omega
attribute [local irreducible] cmpV subV fullT insT rlN rlL tmkT durT mdL wdL srtT tiO tiI timV alO alI allE bthE seenT rtI rtO
set_option maxHeartbeats 4000000 in
theorem C_tactusref22_All (m : Mn) (t : Tm) : Fn Try.prog 94 [mnA m, tmA t] (.tup [spsA (allE m t), iv (bthE m t)]) := by
  refine Fn.go Try.func94 Try.ntmps94 (fun g w d => ?_)
  refine X.seq ?_
  refine X.region ?_
  refine Ex.ba ?_
  refine Ex.ba ?_
  iterate 2 refine Ex.pu ?_
  refine Ex.nil ?_
  refine X.seq ?_
  refine X.region ?_
  iterate 2 refine Ex.pu ?_
  refine Ex.ca (C_tactusref22_asks m t) ?_
  refine Ex.pu ?_
  refine Ex.nil ?_
  refine X.seq ?_
  refine X.seq ?_
  refine X.region ?_
  iterate 2 refine Ex.pu ?_
  refine Ex.nil ?_
  refine X.cd rfl (fun hc1 => ?_) (fun hc1 => ?_)
  · have hV : [] = allE m t := by unfold allE; rw [if_neg hc1]
    refine X.seq ?_
    refine X.region ?_
    iterate 3 refine Ex.pu ?_
    refine Ex.nil ?_
    refine X.ret ?_
    refine RetQ.imp (Imp.au (ts := [(4, spsA []), (5, iv (bthE m t))]) (hs := [])) ?_
    refine RetQ.ret (.many (by decide) (.cons (.tmp rfl (LeV.eq ?_)) (.cons (.tmp rfl (LeV.eq ?_)) .nil)))
    all_goals (first | exact congrArg spsA hV | rfl | exact congrArg (AV.int .i64) hc1.symm)
  refine X.skip ?_
  refine X.seq ?_
  refine X.region ?_
  refine Ex.pu ?_
  refine Ex.nil ?_
  refine X.seq ?_
  refine X.seq ?_
  refine X.imp (Imp.mkrow spE 100 5 7 7 rfl rfl) ?_
  refine X.region ?_
  refine Ex.pu ?_
  refine Ex.nil ?_
  refine X.block ?_
  have hq0 : [] = alO m t 0 := by unfold alO; rfl
  have hck := (bthE_0 hc1).1
  refine X.lp (ι := Nat) (fun (j : Nat) => [(2, .ptr 2 0 0 0), (3, .ptr 3 0 0 0), (7, .own 7), (8, iv (1 + (j : Int)))]) (fun (j : Nat) => [(2, .box (mnE m) 23), (3, .box (tmE t) 26), (7, .row spE (alO m t j) 100 5)]) (fun (j : Nat) => j ≤ 8) (fun (j : Nat) => 8 - j) 0 (fun j hk => ?_) (h0 := by
    exact Imp.ax)
  refine X.seq ?_
  refine X.seq ?_
  refine X.region ?_
  iterate 2 refine Ex.pu ?_
  refine Ex.nil ?_
  refine X.cd rfl (fun hc2 => ?_) (fun hc2 => ?_)
  · refine X.skip ?_
    refine X.seq ?_
    refine X.block ?_
    refine X.seq ?_
    refine X.region ?_
    refine Ex.pu ?_
    refine Ex.nil ?_
    refine X.block ?_
    have hq1 : alO m t j = alO m t j ++ alI m t (1 + (j : Int)) (1 + 0) := by unfold alI; simp [alI]
    have hol := alO_len m t j
    refine X.lp (ι := Nat) (fun (i : Nat) => [(2, .ptr 2 0 0 0), (3, .ptr 3 0 0 0), (7, .own 7), (8, iv (1 + (j : Int))), (9, iv (1 + (i : Int)))]) (fun (i : Nat) => [(2, .box (mnE m) 23), (3, .box (tmE t) 26), (7, .row spE (alO m t j ++ alI m t (1 + (j : Int)) (1 + i)) 100 5)]) (fun (i : Nat) => i ≤ 8) (fun (i : Nat) => 8 - i) 0 (fun i hk => ?_) (h0 := by
      exact Imp.ax)
    refine X.seq ?_
    refine X.seq ?_
    refine X.region ?_
    iterate 2 refine Ex.pu ?_
    refine Ex.nil ?_
    refine X.cd rfl (fun hc3 => ?_) (fun hc3 => ?_)
    · obtain ⟨hdm, hdp, hdl⟩ := md_law hck (v := 1 + (j : Int)) (by omega) (by omega) (i := i) (by omega)
      have hMd := C_tactusref22_made m hck (spOf (1 + (j : Int)) (1 + (i : Int))) (by show 1 ≤ 1 + (j : Int); omega) (by show 1 + (j : Int) ≤ 8; omega) (by show 1 ≤ 1 + (i : Int); omega) (by show 1 + (i : Int) ≤ 8; omega)
      rw [show mdL m (spOf (1 + (j : Int)) (1 + (i : Int))).Value (spOf (1 + (j : Int)) (1 + (i : Int))).Way = mdL m (1 + (j : Int)) (1 + (i : Int)) from rfl] at hMd
      generalize mdL m (1 + (j : Int)) (1 + (i : Int)) = D at hMd hdm hdp hdl
      refine X.skip ?_
      refine X.seq ?_
      refine X.block ?_
      refine X.seq ?_
      refine X.dw [10,26,27,28,29,30] [0,0,0,6,15,31] mo ?_
      iterate 3 refine ChM.pu ?_
      refine ChM.ca (C_tactusref22_form (1 + (j : Int)) (1 + (i : Int))) ?_
      refine ChM.ca hMd ?_
      refine ChM.pu ?_
      refine ChM.tl ?_
      refine Ex.nil ?_
      refine X.seq ?_
      refine X.region ?_
      refine Ex.pu ?_
      refine Ex.nil ?_
      refine X.block ?_
      have hq2 := seen_0 (alO m t j ++ alI m t (1 + (j : Int)) (1 + i)) (spOf (1 + (j : Int)) (1 + (i : Int))) t D
      have hil := alI_len m t (1 + (j : Int)) (1 + i)
      refine X.lp (ι := Nat) (fun (q : Nat) => [(2, .ptr 2 0 0 0), (3, .ptr 3 0 0 0), (7, .own 7), (8, iv (1 + (j : Int))), (9, iv (1 + (i : Int))), (10, tmsA D), (11, iv (q : Int))]) (fun (q : Nat) => [(2, .box (mnE m) 23), (3, .box (tmE t) 26), (7, .row spE (seenT (alO m t j ++ alI m t (1 + (j : Int)) (1 + i)) (spOf (1 + (j : Int)) (1 + (i : Int))) t D q) 100 5)]) (fun (q : Nat) => q ≤ D.length) (fun (q : Nat) => D.length - q) 0 (fun q hk => ?_) (h0 := by
        exact Imp.ax)
      refine X.seq ?_
      refine X.seq ?_
      refine X.region ?_
      iterate 4 refine Ex.pu ?_
      refine Ex.nil ?_
      refine X.cd rfl (fun hc4 => ?_) (fun hc4 => ?_)
      · obtain ⟨u, hu⟩ : ∃ u, D[q]? = some u := ⟨_, List.getElem?_eq_getElem (by omega)⟩
        have hu2 : D[(q : Int).toNat]? = some u := by simpa using hu
        have hsl := seen_len (alO m t j ++ alI m t (1 + (j : Int)) (1 + i)) (spOf (1 + (j : Int)) (1 + (i : Int))) t D q
        rw [List.length_append] at hsl
        refine X.skip ?_
        refine X.seq ?_
        refine X.block ?_
        refine X.seq ?_
        refine X.dw [37,38,39,40,41,42] [0,0,3,7,0,31] mo ?_
        iterate 6 refine ChM.pu ?_
        refine ChM.tl ?_
        refine Ex.nil ?_
        refine X.cd rfl (fun hc5 => ?_) (fun hc5 => ?_)
        · have hst := seen_yes (X := alO m t j ++ alI m t (1 + (j : Int)) (1 + i)) (s := (spOf (1 + (j : Int)) (1 + (i : Int)))) hu hc5 hdp
          refine X.region ?_
          iterate 3 refine Ex.pu ?_
          refine Ex.ca (C_tactusref22_form (1 + (j : Int)) (1 + (i : Int))) ?_
          refine Ex.bs spE [spOf (1 + (j : Int)) (1 + (i : Int))] ?_
          refine Ex.mo ?_
          refine Ex.pu ?_
          refine Ex.nil ?_
          refine X.region ?_
          iterate 3 refine Ex.pu ?_
          refine Ex.nil ?_
          refine X.bk (q + 1) (hI := Imp.ax)
        · have hst := seen_no (X := alO m t j ++ alI m t (1 + (j : Int)) (1 + i)) (s := (spOf (1 + (j : Int)) (1 + (i : Int)))) hu hc5
          refine X.skip ?_
          refine X.region ?_
          iterate 3 refine Ex.pu ?_
          refine Ex.nil ?_
          refine X.bk (q + 1) (hI := Imp.ax)
      · have hqD : q = D.length := by omega
        subst hqD
        have hst := seen_end (t := t) hdm (alO m t j)
        refine X.exit ?_
        refine X.region ?_
        iterate 3 refine Ex.pu ?_
        refine Ex.nil ?_
        refine X.bk (i + 1) (hI := Imp.ax)
    · have hi8 : i = 8 := by omega
      subst hi8
      have hst : alO m t j ++ alI m t (1 + (j : Int)) (1 + 8) = alO m t (j + 1) := by conv => rhs; unfold alO
      refine X.exit ?_
      refine X.region ?_
      iterate 3 refine Ex.pu ?_
      refine Ex.nil ?_
      refine X.bk (j + 1) (hI := Imp.ax)
  · have hj8 : j = 8 := by omega
    subst hj8
    have hV : alO m t 8 = allE m t := by unfold allE; rw [if_pos hc1]
    refine X.exit ?_
    refine X.seq ?_
    refine X.region ?_
    iterate 3 refine Ex.pu ?_
    refine Ex.nil ?_
    refine X.ret ?_
    refine RetQ.imp (Imp.freeze (k := 7) rfl) ?_
    refine RetQ.ret (.many (by decide) (.cons (.tmp rfl (LeV.eq ?_)) (.cons (.tmp rfl (LeV.eq ?_)) .nil)))
    all_goals (first | exact congrArg spsA hV | rfl | exact congrArg (AV.int .i64) hc1.symm)
set_option maxHeartbeats 4000000 in
theorem C_tactusref22_Times (m : Mn) : Fn Try.prog 98 [mnA m] (.tup [tmsA (timV m), iv (ckM m)]) := by
  refine Fn.go Try.func98 Try.ntmps98 (fun g w d => ?_)
  refine X.seq ?_
  refine X.region ?_
  refine Ex.ba ?_
  iterate 2 refine Ex.pu ?_
  refine Ex.nil ?_
  refine X.seq ?_
  refine X.region ?_
  refine Ex.pu ?_
  refine Ex.ca (C_tactusref05_Check m) ?_
  refine Ex.pu ?_
  refine Ex.nil ?_
  refine X.seq ?_
  refine X.seq ?_
  refine X.region ?_
  iterate 2 refine Ex.pu ?_
  refine Ex.nil ?_
  refine X.cd rfl (fun hc1 => ?_) (fun hc1 => ?_)
  · have hV : [] = timV m := by unfold timV; rw [if_neg hc1]
    refine X.seq ?_
    refine X.region ?_
    iterate 3 refine Ex.pu ?_
    refine Ex.nil ?_
    refine X.ret ?_
    refine RetQ.imp (Imp.au (ts := [(2, tmsA []), (3, iv (ckM m))]) (hs := [])) ?_
    refine RetQ.ret (.many (by decide) (.cons (.tmp rfl (LeV.eq ?_)) (.cons (.tmp rfl (LeV.eq ?_)) .nil)))
    all_goals (first | exact congrArg tmsA hV | rfl | exact congrArg (AV.int .i64) hck.symm)
  refine X.skip ?_
  refine X.seq ?_
  refine X.region ?_
  refine Ex.pu ?_
  refine Ex.nil ?_
  refine X.seq ?_
  refine X.seq ?_
  refine X.imp (Imp.au (ts := [(1, .ptr 1 0 0 0), (5, tmsA [])]) (hs := [(1, .box (mnE m) 23)])) ?_
  refine X.region ?_
  refine Ex.pu ?_
  refine Ex.nil ?_
  refine X.block ?_
  have hq0 : [] = rtO m 0 := by unfold rtO; rfl
  have hck : ckM m = 0 := hc1
  refine X.lp (ι := Nat) (fun (j : Nat) => [(1, .ptr 1 0 0 0), (5, tmsA (rtO m j)), (6, iv (1 + (j : Int)))]) (fun (j : Nat) => [(1, .box (mnE m) 23)]) (fun (j : Nat) => j ≤ 8) (fun (j : Nat) => 8 - j) 0 (fun j hk => ?_) (h0 := by
    exact Imp.ax)
  refine X.seq ?_
  refine X.seq ?_
  refine X.region ?_
  iterate 2 refine Ex.pu ?_
  refine Ex.nil ?_
  refine X.cd rfl (fun hc2 => ?_) (fun hc2 => ?_)
  · refine X.skip ?_
    refine X.seq ?_
    refine X.block ?_
    refine X.seq ?_
    refine X.region ?_
    refine Ex.pu ?_
    refine Ex.nil ?_
    refine X.block ?_
    have hq1 : rtO m j = rtI m (1 + (j : Int)) (rtO m j) 0 := by unfold rtI; rfl
    have hol := rtO_len hck j (by omega)
    refine X.lp (ι := Nat) (fun (i : Nat) => [(1, .ptr 1 0 0 0), (5, tmsA (rtI m (1 + (j : Int)) (rtO m j) i)), (6, iv (1 + (j : Int))), (7, iv (1 + (i : Int)))]) (fun (i : Nat) => [(1, .box (mnE m) 23)]) (fun (i : Nat) => i ≤ 8) (fun (i : Nat) => 8 - i) 0 (fun i hk => ?_) (h0 := by
      exact Imp.ax)
    refine X.seq ?_
    refine X.seq ?_
    refine X.region ?_
    iterate 2 refine Ex.pu ?_
    refine Ex.nil ?_
    refine X.cd rfl (fun hc3 => ?_) (fun hc3 => ?_)
    · obtain ⟨hdm, hdp, hdl⟩ := md_law hck (v := 1 + (j : Int)) (by omega) (by omega) (i := i) (by omega)
      have hMd := C_tactusref22_made m hck (spOf (1 + (j : Int)) (1 + (i : Int))) (by show 1 ≤ 1 + (j : Int); omega) (by show 1 + (j : Int) ≤ 8; omega) (by show 1 ≤ 1 + (i : Int); omega) (by show 1 + (i : Int) ≤ 8; omega)
      rw [show mdL m (spOf (1 + (j : Int)) (1 + (i : Int))).Value (spOf (1 + (j : Int)) (1 + (i : Int))).Way = mdL m (1 + (j : Int)) (1 + (i : Int)) from rfl] at hMd
      obtain ⟨D, hD⟩ : ∃ D, D = mdL m (1 + (j : Int)) (1 + (i : Int)) := ⟨_, rfl⟩
      rw [← hD] at hMd hdl
      have hil := rtI_len hck (show 1 ≤ 1 + (j : Int) by omega) (by omega) (rtO m j) i (by omega)
      refine X.skip ?_
      refine X.seq ?_
      refine X.block ?_
      refine X.seq ?_
      refine X.dw [8,23,24,25,26,27] [0,0,0,6,15,31] mo ?_
      iterate 3 refine ChM.pu ?_
      refine ChM.ca (C_tactusref22_form (1 + (j : Int)) (1 + (i : Int))) ?_
      refine ChM.ca hMd ?_
      refine ChM.pu ?_
      refine ChM.tl ?_
      refine Ex.nil ?_
      refine X.seq ?_
      refine X.region ?_
      refine Ex.pu ?_
      refine Ex.nil ?_
      refine X.block ?_
      have hq2 : rtI m (1 + (j : Int)) (rtO m j) i = (D.take 0).foldl insT (rtI m (1 + (j : Int)) (rtO m j) i) := by rw [List.take_zero]; rfl
      refine X.lp (ι := Nat) (fun (q : Nat) => [(1, .ptr 1 0 0 0), (5, tmsA ((D.take q).foldl insT (rtI m (1 + (j : Int)) (rtO m j) i))), (6, iv (1 + (j : Int))), (7, iv (1 + (i : Int))), (8, tmsA D), (9, iv (q : Int))]) (fun (q : Nat) => [(1, .box (mnE m) 23)]) (fun (q : Nat) => q ≤ D.length) (fun (q : Nat) => D.length - q) 0 (fun q hk => ?_) (h0 := by
        exact Imp.ax)
      refine X.seq ?_
      refine X.seq ?_
      refine X.region ?_
      iterate 4 refine Ex.pu ?_
      refine Ex.nil ?_
      refine X.cd rfl (fun hc4 => ?_) (fun hc4 => ?_)
      · obtain ⟨u, hu⟩ : ∃ u, D[q]? = some u := ⟨_, List.getElem?_eq_getElem (by omega)⟩
        have hu2 : D[(q : Int).toNat]? = some u := by simpa using hu
        have hst := fold_step (out := rtI m (1 + (j : Int)) (rtO m j) i) hu
        have hfl := foldI_len (D.take q) (rtI m (1 + (j : Int)) (rtO m j) i)
        have htl : (D.take q).length ≤ D.length := by rw [List.length_take]; omega
        refine X.skip ?_
        refine X.seq ?_
        refine X.block ?_
        refine X.region ?_
        iterate 5 refine Ex.pu ?_
        refine Ex.ca (C_tactusref22_insert ((D.take q).foldl insT (rtI m (1 + (j : Int)) (rtO m j) i)) u (by omega)) ?_
        refine Ex.pu ?_
        refine Ex.nil ?_
        refine X.region ?_
        iterate 3 refine Ex.pu ?_
        refine Ex.nil ?_
        refine X.bk (q + 1) (hI := Imp.ax)
      · have hqD : q = D.length := by omega
        subst hqD
        have hst : (D.take D.length).foldl insT (rtI m (1 + (j : Int)) (rtO m j) i) = rtI m (1 + (j : Int)) (rtO m j) (i + 1) := by
          rw [List.take_length, hD]; conv => rhs; unfold rtI
        refine X.exit ?_
        refine X.region ?_
        iterate 3 refine Ex.pu ?_
        refine Ex.nil ?_
        refine X.bk (i + 1) (hI := Imp.ax)
    · have hi8 : i = 8 := by omega
      subst hi8
      have hst : rtI m (1 + (j : Int)) (rtO m j) 8 = rtO m (j + 1) := by conv => rhs; unfold rtO
      refine X.exit ?_
      refine X.region ?_
      iterate 3 refine Ex.pu ?_
      refine Ex.nil ?_
      refine X.bk (j + 1) (hI := Imp.ax)
  · have hj8 : j = 8 := by omega
    subst hj8
    have hV := rt_law hck
    refine X.exit ?_
    refine X.seq ?_
    refine X.region ?_
    iterate 3 refine Ex.pu ?_
    refine Ex.nil ?_
    refine X.ret ?_
    refine RetQ.ret (.many (by decide) (.cons (.tmp rfl (LeV.eq ?_)) (.cons (.tmp rfl (LeV.eq ?_)) .nil)))
    all_goals (first | exact congrArg tmsA hV | rfl | exact congrArg (AV.int .i64) hck.symm)
end Go.Rse
