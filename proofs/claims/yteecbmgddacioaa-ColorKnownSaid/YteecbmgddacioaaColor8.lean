/-
  Walks: Of.
-/
import Derived.Test.YteecbmgddacioaaColor7
namespace Go.Rse
open Go Go.Proofs
set_option linter.unusedVariables false
set_option linter.unusedSimpArgs false
attribute [local irreducible] Pur StepA StepM Ex X ExG Fn Imp LeV LeB FnO It YStep
attribute [local irreducible] pairB pairK pairL isPair ckD
theorem colE_z {m : Mn} {l : List Sg} (h : colE m l = 0) : ckD m l = 0 ∧ (prL m l).length ≤ 6 ∧ colN m l = 2 ^ (prL m l).length := by
  unfold colE at h
  split at h
  · next h1 =>
    split at h
    · omega
    · next h2 => exact ⟨h1, by omega, by unfold colN; rw [if_pos h1, if_neg h2]⟩
  · next h1 => exact absurd h h1
/-- The binary digits, the highest first: the digit at a place. -/
def bitv (K j : Nat) : Int := if j < K then 2 ^ (K - 1 - j) else 0
def dig (n : Int) (K j : Nat) : Int := if n / 2 ^ (K - 1 - j) % 2 = 0 then 1 else 2
def digP (n : Int) (K j : Nat) : List Int := (List.range j).map (dig n K)
theorem digP_snoc (n : Int) (K j : Nat) : digP n K j ++ [dig n K j] = digP n K (j + 1) := by unfold digP; rw [List.range_succ, List.map_append]; rfl
theorem digP_len (n : Int) (K j : Nat) : (digP n K j).length = j := by unfold digP; simp
theorem bitv_tab : ∀ K : Fin 7, ∀ j : Fin 7, bitv K.val j.val / 2 = bitv K.val (j.val + 1) ∧ (j.val < K.val → 1 ≤ bitv K.val j.val ∧ bitv K.val j.val ≤ 64) := by decide
theorem bitv_0 : ∀ K : Fin 7, (2 : Int) ^ K.val / 2 = bitv K.val 0 := by decide
theorem bitv_s {K j : Nat} (hK : K ≤ 6) (hj : j ≤ K) : bitv K j / 2 = bitv K (j + 1) := (bitv_tab ⟨K, by omega⟩ ⟨j, by omega⟩).1
theorem bitv_b {K j : Nat} (hK : K ≤ 6) (hj : j < K) : 1 ≤ bitv K j ∧ bitv K j ≤ 64 := (bitv_tab ⟨K, by omega⟩ ⟨j, by omega⟩).2 hj
theorem bitv_z {K j : Nat} (hj : ¬ j < K) : bitv K j = 0 := by unfold bitv; rw [if_neg hj]
theorem bitv_n {K j : Nat} (hj : j < K) : bitv K j = 2 ^ (K - 1 - j) := by unfold bitv; rw [if_pos hj]
theorem dig_and {n : Int} {K j : Nat} (h0 : 0 ≤ n) (h1 : n < 64) (hK : K ≤ 6) (hj : j < K) : dig n K j = if andI n (bitv K j) = 0 then 1 else 2 := by
  unfold dig; rw [bitv_n hj]
  have h := andI_zero h0 h1 (k := K - 1 - j) (by omega)
  by_cases e : andI n (2 ^ (K - 1 - j)) = 0
  · rw [if_pos e, if_pos (h.1 e)]
  · rw [if_neg e, if_neg (fun x => e (h.2 x))]
theorem dig_mod {n : Int} {K j : Nat} (hj : j < K) : dig n K j = 1 + n / bitv K j % 2 := by
  unfold dig; rw [bitv_n hj]
  have := Int.emod_two_eq (n / 2 ^ (K - 1 - j))
  split <;> omega
def ofE (m : Mn) (l : List Sg) (n : Int) : Int := if colE m l = 0 then (if n < 0 ∨ colN m l ≤ n then 2 else 0) else colE m l
def ofV (m : Mn) (l : List Sg) (n : Int) : List Int := if colE m l = 0 then (if n < 0 ∨ colN m l ≤ n then [] else digP n (prL m l).length (prL m l).length) else []
theorem ofE_0 {m : Mn} {l : List Sg} {n : Int} (h : ¬ colE m l = 0) : colE m l = ofE m l n := by unfold ofE; rw [if_neg h]
theorem ofV_0 {m : Mn} {l : List Sg} {n : Int} (h : ¬ colE m l = 0) : [] = ofV m l n := by unfold ofV; rw [if_neg h]
theorem ofE_1 {m : Mn} {l : List Sg} {n : Int} (h : colE m l = 0) (h2 : n < 0 ∨ colN m l ≤ n) : 2 = ofE m l n := by unfold ofE; rw [if_pos h, if_pos h2]
theorem ofV_1 {m : Mn} {l : List Sg} {n : Int} (h : colE m l = 0) (h2 : n < 0 ∨ colN m l ≤ n) : [] = ofV m l n := by unfold ofV; rw [if_pos h, if_pos h2]
theorem ofE_2 {m : Mn} {l : List Sg} {n : Int} (h : colE m l = 0) (h2 : ¬ (n < 0 ∨ colN m l ≤ n)) : 0 = ofE m l n := by unfold ofE; rw [if_pos h, if_neg h2]
theorem ofV_2 {m : Mn} {l : List Sg} {n : Int} (h : colE m l = 0) (h2 : ¬ (n < 0 ∨ colN m l ≤ n)) : digP n (prL m l).length (prL m l).length = ofV m l n := by unfold ofV; rw [if_pos h, if_neg h2]
attribute [local irreducible] prL colN colE bitv dig digP andI
theorem C_color_Of (m : Mn) (l : List Sg) (n : Int) (hl : l.length ≤ 1000) : Fn Try.prog 84 [mnA m, sgsA l, iv n] (.tup [intsA (ofV m l n), iv (ofE m l n)]) := by
  refine Fn.go Try.func84 Try.ntmps84 (fun g w d => ?_)
  refine X.seq ?_
  refine X.region ?_
  refine Ex.ba ?_
  iterate 2 refine Ex.pu ?_
  refine Ex.nil ?_
  refine X.seq ?_
  refine X.region ?_
  iterate 2 refine Ex.pu ?_
  refine Ex.ca (C_color_Count m l hl) ?_
  iterate 5 refine Ex.pu ?_
  refine Ex.nil ?_
  refine X.seq ?_
  refine X.seq ?_
  refine X.region ?_
  iterate 2 refine Ex.pu ?_
  refine Ex.nil ?_
  refine X.cd rfl (fun hc1 => ?_) (fun hc1 => ?_)
  · refine X.seq ?_
    refine X.region ?_
    iterate 3 refine Ex.pu ?_
    refine Ex.nil ?_
    refine X.ret ?_
    refine RetQ.imp (Imp.au (ts := [(6, intsA []), (7, iv (colE m l))]) (hs := [])) ?_
    refine RetQ.ret (.many (by decide) (.cons (.tmp rfl (LeV.eq ?_)) (.cons (.tmp rfl (LeV.eq ?_)) .nil)))
    all_goals (first | exact congrArg intsA (ofV_0 hc1) | exact congrArg (AV.int .i64) (ofE_0 hc1) | exact congrArg intsA (ofV_1 hc1 (by omega)) | exact congrArg (AV.int .i64) (ofE_1 hc1 (by omega)) | exact congrArg intsA (ofV_2 hc1 (by omega)) | exact congrArg (AV.int .i64) (ofE_2 hc1 (by omega)))
  refine X.skip ?_
  refine X.seq ?_
  refine X.seq ?_
  refine X.region ?_
  iterate 2 refine Ex.pu ?_
  refine ExF.at 2 ?_
  refine ExF.pu ?_
  iterate 3 refine ExF.gi ?_
  refine ExF.done ?_
  refine Ex.pu ?_
  refine Ex.nil ?_
  refine X.cd rfl (fun hc2 => ?_) (fun hc2 => ?_)
  · refine X.seq ?_
    refine X.region ?_
    iterate 2 refine Ex.pu ?_
    refine Ex.nil ?_
    refine X.ret ?_
    refine RetQ.imp (Imp.au (ts := [(6, intsA []), (7, iv 2)]) (hs := [])) ?_
    refine RetQ.ret (.many (by decide) (.cons (.tmp rfl (LeV.eq ?_)) (.cons (.tmp rfl (LeV.eq ?_)) .nil)))
    all_goals (first | exact congrArg intsA (ofV_0 hc1) | exact congrArg (AV.int .i64) (ofE_0 hc1) | exact congrArg intsA (ofV_1 hc1 (by omega)) | exact congrArg (AV.int .i64) (ofE_1 hc1 (by omega)) | exact congrArg intsA (ofV_2 hc1 (by omega)) | exact congrArg (AV.int .i64) (ofE_2 hc1 (by omega)))
  have hz := colE_z hc1
  have hpb := pow2_tab hz.2.1
  have hb0 := bitv_0 ⟨(prL m l).length, by omega⟩
  have he0 : [] = digP n (prL m l).length 0 := by unfold digP; rfl
  have hk6 := hz.2.1
  have hcn := hz.2.2
  rw [← hcn] at hb0 hpb
  refine X.skip ?_
  refine X.seq ?_
  refine X.region ?_
  refine Ex.pu ?_
  refine Ex.nil ?_
  refine X.seq ?_
  refine X.seq ?_
  refine X.imp (Imp.mkrow intE 3 1 10 10 rfl rfl) ?_
  refine X.region ?_
  refine Ex.pu ?_
  refine Ex.pu (hs := P_shr1 rfl rfl) ?_
  refine Ex.pu ?_
  refine Ex.nil ?_
  refine X.block ?_
  refine X.lp (ι := Nat) (fun (k : Nat) => [(2, iv n), (10, .own 10), (11, iv (bitv (prL m l).length k))]) (fun (k : Nat) => [(10, .row intE (digP n (prL m l).length k) 3 1)]) (fun (k : Nat) => k ≤ (prL m l).length) (fun (k : Nat) => (prL m l).length - k) 0 (fun k hk => ?_)
  refine X.seq ?_
  refine X.seq ?_
  refine X.region ?_
  iterate 2 refine Ex.pu ?_
  refine Ex.nil ?_
  refine X.cd rfl (fun hc3 => ?_) (fun hc3 => ?_)
  · have hkl : k < (prL m l).length := by
      apply Classical.byContradiction; intro hn
      rw [bitv_z hn] at hc3; omega
    have hlen := digP_len n (prL m l).length k
    have hbs := bitv_s (K := (prL m l).length) (j := k) hk6 (by omega)
    have hda := dig_and (n := n) (by omega) (by omega) hk6 hkl
    have hst := digP_snoc n (prL m l).length k
    refine X.skip ?_
    refine X.seq ?_
    refine X.block ?_
    refine X.seq ?_
    refine X.region ?_
    iterate 2 refine Ex.pu ?_
    refine Ex.pu (hs := P_andI rfl rfl) ?_
    refine Ex.pu ?_
    refine Ex.nil ?_
    refine X.cd rfl (fun hc4 => ?_) (fun hc4 => ?_)
    · rw [if_pos hc4] at hda; rw [hda] at hst
      refine X.region ?_
      refine Ex.pu ?_
      refine Ex.bs intE [_] ?_
      refine Ex.mo ?_
      refine Ex.pu ?_
      refine Ex.nil ?_
      refine X.region ?_
      refine Ex.pu ?_
      refine Ex.pu (hs := P_shr1 rfl rfl) ?_
      refine Ex.pu ?_
      refine Ex.nil ?_
      refine X.bk (k + 1)
    · rw [if_neg hc4] at hda; rw [hda] at hst
      refine X.region ?_
      refine Ex.pu ?_
      refine Ex.bs intE [_] ?_
      refine Ex.mo ?_
      refine Ex.pu ?_
      refine Ex.nil ?_
      refine X.region ?_
      refine Ex.pu ?_
      refine Ex.pu (hs := P_shr1 rfl rfl) ?_
      refine Ex.pu ?_
      refine Ex.nil ?_
      refine X.bk (k + 1)
  · have hkl : k = (prL m l).length := by
      apply Classical.byContradiction; intro hn
      have hbb := bitv_b (K := (prL m l).length) (j := k) hk6 (by omega)
      omega
    subst hkl
    refine X.exit ?_
    refine X.seq ?_
    refine X.region ?_
    iterate 3 refine Ex.pu ?_
    refine Ex.nil ?_
    refine X.ret ?_
    refine RetQ.imp (Imp.freeze (k := 10) rfl) ?_
    refine RetQ.ret (.many (by decide) (.cons (.tmp rfl (LeV.eq ?_)) (.cons (.tmp rfl (LeV.eq ?_)) .nil)))
    all_goals (first | exact congrArg intsA (ofV_0 hc1) | exact congrArg (AV.int .i64) (ofE_0 hc1) | exact congrArg intsA (ofV_1 hc1 (by omega)) | exact congrArg (AV.int .i64) (ofE_1 hc1 (by omega)) | exact congrArg intsA (ofV_2 hc1 (by omega)) | exact congrArg (AV.int .i64) (ofE_2 hc1 (by omega)))
theorem C_tactusref11_Of (m : Mn) (l : List Sg) (n : Int) (hl : l.length ≤ 1000) : Fn Try.prog 89 [mnA m, sgsA l, iv n] (.tup [intsA (ofV m l n), iv (ofE m l n)]) := by
  refine Fn.go Try.func89 Try.ntmps89 (fun g w d => ?_)
  refine X.seq ?_
  refine X.region ?_
  refine Ex.ba ?_
  iterate 2 refine Ex.pu ?_
  refine Ex.nil ?_
  refine X.seq ?_
  refine X.region ?_
  iterate 2 refine Ex.pu ?_
  refine Ex.ca (C_tactusref11_Count m l hl) ?_
  iterate 5 refine Ex.pu ?_
  refine Ex.nil ?_
  refine X.seq ?_
  refine X.seq ?_
  refine X.region ?_
  iterate 2 refine Ex.pu ?_
  refine Ex.nil ?_
  refine X.cd rfl (fun hc1 => ?_) (fun hc1 => ?_)
  · refine X.seq ?_
    refine X.region ?_
    iterate 3 refine Ex.pu ?_
    refine Ex.nil ?_
    refine X.ret ?_
    refine RetQ.imp (Imp.au (ts := [(6, intsA []), (7, iv (colE m l))]) (hs := [])) ?_
    refine RetQ.ret (.many (by decide) (.cons (.tmp rfl (LeV.eq ?_)) (.cons (.tmp rfl (LeV.eq ?_)) .nil)))
    all_goals (first | exact congrArg intsA (ofV_0 hc1) | exact congrArg (AV.int .i64) (ofE_0 hc1) | exact congrArg intsA (ofV_1 hc1 (by omega)) | exact congrArg (AV.int .i64) (ofE_1 hc1 (by omega)) | exact congrArg intsA (ofV_2 hc1 (by omega)) | exact congrArg (AV.int .i64) (ofE_2 hc1 (by omega)))
  refine X.skip ?_
  refine X.seq ?_
  refine X.seq ?_
  refine X.region ?_
  iterate 2 refine Ex.pu ?_
  refine ExF.at 2 ?_
  refine ExF.pu ?_
  iterate 3 refine ExF.gi ?_
  refine ExF.done ?_
  refine Ex.pu ?_
  refine Ex.nil ?_
  refine X.cd rfl (fun hc2 => ?_) (fun hc2 => ?_)
  · refine X.seq ?_
    refine X.region ?_
    iterate 2 refine Ex.pu ?_
    refine Ex.nil ?_
    refine X.ret ?_
    refine RetQ.imp (Imp.au (ts := [(6, intsA []), (7, iv 2)]) (hs := [])) ?_
    refine RetQ.ret (.many (by decide) (.cons (.tmp rfl (LeV.eq ?_)) (.cons (.tmp rfl (LeV.eq ?_)) .nil)))
    all_goals (first | exact congrArg intsA (ofV_0 hc1) | exact congrArg (AV.int .i64) (ofE_0 hc1) | exact congrArg intsA (ofV_1 hc1 (by omega)) | exact congrArg (AV.int .i64) (ofE_1 hc1 (by omega)) | exact congrArg intsA (ofV_2 hc1 (by omega)) | exact congrArg (AV.int .i64) (ofE_2 hc1 (by omega)))
  have hz := colE_z hc1
  have hpb := pow2_tab hz.2.1
  have hb0 := bitv_0 ⟨(prL m l).length, by omega⟩
  have he0 : [] = digP n (prL m l).length 0 := by unfold digP; rfl
  have hk6 := hz.2.1
  have hcn := hz.2.2
  rw [← hcn] at hb0 hpb
  refine X.skip ?_
  refine X.seq ?_
  refine X.region ?_
  refine Ex.pu ?_
  refine Ex.nil ?_
  refine X.seq ?_
  refine X.seq ?_
  refine X.imp (Imp.mkrow intE 3 1 10 10 rfl rfl) ?_
  refine X.region ?_
  iterate 3 refine Ex.pu ?_
  refine Ex.nil ?_
  refine X.block ?_
  refine X.lp (ι := Nat) (fun (k : Nat) => [(2, iv n), (10, .own 10), (11, iv (bitv (prL m l).length k))]) (fun (k : Nat) => [(10, .row intE (digP n (prL m l).length k) 3 1)]) (fun (k : Nat) => k ≤ (prL m l).length) (fun (k : Nat) => (prL m l).length - k) 0 (fun k hk => ?_)
  refine X.seq ?_
  refine X.seq ?_
  refine X.region ?_
  iterate 2 refine Ex.pu ?_
  refine Ex.nil ?_
  refine X.cd rfl (fun hc3 => ?_) (fun hc3 => ?_)
  · have hkl : k < (prL m l).length := by
      apply Classical.byContradiction; intro hn
      rw [bitv_z hn] at hc3; omega
    have hlen := digP_len n (prL m l).length k
    have hbb := bitv_b (K := (prL m l).length) (j := k) hk6 hkl
    have hbs := bitv_s (K := (prL m l).length) (j := k) hk6 (by omega)
    have hda := dig_mod (n := n) hkl
    have hst := digP_snoc n (prL m l).length k
    rw [hda] at hst
    have hq0 : 0 ≤ n / bitv (prL m l).length k := Int.ediv_nonneg (by omega) (by omega)
    have hq1 : n / bitv (prL m l).length k ≤ n := Int.ediv_le_self _ (by omega)
    refine X.skip ?_
    refine X.seq ?_
    refine X.block ?_
    refine X.region ?_
    iterate 6 refine Ex.pu ?_
    refine Ex.bs intE [_] ?_
    refine Ex.mo ?_
    refine Ex.pu ?_
    refine Ex.nil ?_
    refine X.region ?_
    iterate 3 refine Ex.pu ?_
    refine Ex.nil ?_
    refine X.bk (k + 1)
  · have hkl : k = (prL m l).length := by
      apply Classical.byContradiction; intro hn
      have hbb := bitv_b (K := (prL m l).length) (j := k) hk6 (by omega)
      omega
    subst hkl
    refine X.exit ?_
    refine X.seq ?_
    refine X.region ?_
    iterate 3 refine Ex.pu ?_
    refine Ex.nil ?_
    refine X.ret ?_
    refine RetQ.imp (Imp.freeze (k := 10) rfl) ?_
    refine RetQ.ret (.many (by decide) (.cons (.tmp rfl (LeV.eq ?_)) (.cons (.tmp rfl (LeV.eq ?_)) .nil)))
    all_goals (first | exact congrArg intsA (ofV_0 hc1) | exact congrArg (AV.int .i64) (ofE_0 hc1) | exact congrArg intsA (ofV_1 hc1 (by omega)) | exact congrArg (AV.int .i64) (ofE_1 hc1 (by omega)) | exact congrArg intsA (ofV_2 hc1 (by omega)) | exact congrArg (AV.int .i64) (ofE_2 hc1 (by omega)))
end Go.Rse
