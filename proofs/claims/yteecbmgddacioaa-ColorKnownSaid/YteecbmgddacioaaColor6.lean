/-
  Walks: the plain rule, the count.
-/
import Derived.Test.YteecbmgddacioaaColor5
import Derived.Test.YteecbmgddacioaaRse32
namespace Go.Rse
open Go Go.Proofs
set_option linter.unusedVariables false
set_option linter.unusedSimpArgs false
attribute [local irreducible] Pur StepA StepM Ex X ExG Fn Imp LeV LeB FnO It YStep
attribute [local irreducible] pairB pairK pairL isPair ckD
def prL (m : Mn) (l : List Sg) : List Int := if ckD m l = 0 then pairL m l else []
def twos (n : Nat) : List Int := List.replicate n 2
theorem twos_snoc (n : Nat) : twos n ++ [2] = twos (n + 1) := by unfold twos; rw [List.replicate_succ']
theorem twos_len (n : Nat) : (twos n).length = n := by unfold twos; simp
theorem prL_len (m : Mn) (l : List Sg) : (prL m l).length ≤ l.length := by
  unfold prL; split
  · exact pairL_len m l
  · simp
theorem C_tactusref11_Pairs' (m : Mn) (l : List Sg) (hl : l.length ≤ 1000) : Fn Try.prog 87 [mnA m, sgsA l] (.tup [intsA (prL m l), iv (ckD m l)]) := C_tactusref11_Pairs m l hl
/-- The count: the value, the errno. -/
def colN (m : Mn) (l : List Sg) : Int := if ckD m l = 0 then (if 6 < (prL m l).length then 0 else 2 ^ (prL m l).length) else 0
def colE (m : Mn) (l : List Sg) : Int := if ckD m l = 0 then (if 6 < (prL m l).length then 15 else 0) else ckD m l
theorem colN_0 {m : Mn} {l : List Sg} (h : ¬ckD m l = 0) : 0 = colN m l := by unfold colN; rw [if_neg h]
theorem colE_0 {m : Mn} {l : List Sg} (h : ¬ckD m l = 0) : ckD m l = colE m l := by unfold colE; rw [if_neg h]
theorem colN_1 {m : Mn} {l : List Sg} (h : ckD m l = 0) (h6 : 6 < (prL m l).length) : 0 = colN m l := by unfold colN; rw [if_pos h, if_pos h6]
theorem colE_1 {m : Mn} {l : List Sg} (h : ckD m l = 0) (h6 : 6 < (prL m l).length) : 15 = colE m l := by unfold colE; rw [if_pos h, if_pos h6]
theorem colN_2 {m : Mn} {l : List Sg} (h : ckD m l = 0) {k : Nat} (hk : k = (prL m l).length) (h6 : k ≤ 6) : 2 ^ k = colN m l := by unfold colN; rw [if_pos h, if_neg (by omega), hk]
theorem colE_2 {m : Mn} {l : List Sg} (h : ckD m l = 0) {k : Nat} (hk : k = (prL m l).length) (h6 : k ≤ 6) : 0 = colE m l := by unfold colE; rw [if_pos h, if_neg (by omega)]
theorem pow2_tab {k : Nat} (h : k ≤ 6) : 1 ≤ (2 : Int) ^ k ∧ (2 : Int) ^ k ≤ 64 := by
  rcases k with _ | _ | _ | _ | _ | _ | _ | k <;> first | omega | (constructor <;> decide)
theorem pow2_7 : (2 : Int) * 2 ^ 6 = 128 := by decide
theorem pow2_s (k : Nat) : (2 : Int) * 2 ^ k = 2 ^ (k + 1) := by rw [Int.pow_succ]; omega
attribute [local irreducible] prL twos
theorem C_tactusref11_Rule (m : Mn) (l : List Sg) (hl : l.length ≤ 1000) : Fn Try.prog 88 [mnA m, sgsA l] (.tup [intsA (twos (prL m l).length), iv (ckD m l)]) := by
  have hq0 : [] = twos 0 := by unfold twos; rfl
  have hpl := prL_len m l
  refine Fn.go Try.func88 Try.ntmps88 (fun g w d => ?_)
  refine X.seq ?_
  refine X.region ?_
  refine Ex.ba ?_
  iterate 2 refine Ex.pu ?_
  refine Ex.nil ?_
  refine X.seq ?_
  refine X.region ?_
  iterate 2 refine Ex.pu ?_
  refine Ex.ca (C_tactusref11_Pairs' m l hl) ?_
  iterate 5 refine Ex.pu ?_
  refine Ex.nil ?_
  refine X.seq ?_
  refine X.region ?_
  refine Ex.pu ?_
  refine Ex.nil ?_
  refine X.seq ?_
  refine X.seq ?_
  refine X.imp (Imp.mkrow intE 3 1 8 8 rfl rfl) ?_
  refine X.region ?_
  refine Ex.pu ?_
  refine Ex.nil ?_
  refine X.block ?_
  refine X.lp (ι := Nat) (fun (k : Nat) => [(6, intsA (prL m l)), (7, iv (ckD m l)), (8, .own 8), (9, iv (k : Int))]) (fun (k : Nat) => [(8, .row intE (twos k) 3 1)]) (fun (k : Nat) => k ≤ (prL m l).length) (fun (k : Nat) => (prL m l).length - k) 0 (fun k hk => ?_)
  refine X.seq ?_
  refine X.seq ?_
  refine X.region ?_
  iterate 4 refine Ex.pu ?_
  refine Ex.nil ?_
  refine X.cd rfl (fun hc1 => ?_) (fun hc1 => ?_)
  · have hlen := twos_len k
    have hst := twos_snoc k
    refine X.skip ?_
    refine X.seq ?_
    refine X.block ?_
    refine X.region ?_
    refine Ex.pu ?_
    refine Ex.bs intE [_] ?_
    refine Ex.mo ?_
    refine Ex.pu ?_
    refine Ex.nil ?_
    refine X.region ?_
    iterate 3 refine Ex.pu ?_
    refine Ex.nil ?_
    refine X.bk (k + 1)
  · have hkl : k = (prL m l).length := by omega
    subst hkl
    refine X.exit ?_
    refine X.seq ?_
    refine X.region ?_
    iterate 4 refine Ex.pu ?_
    refine Ex.nil ?_
    refine X.ret ?_
    refine RetQ.imp (Imp.freeze (k := 8) rfl) ?_
    refine RetQ.ret (.many (by decide) (.cons (.tmp rfl (LeV.eq ?_)) (.cons (.tmp rfl (LeV.eq ?_)) .nil)))
    all_goals (rfl)
theorem C_tactusref11_Count (m : Mn) (l : List Sg) (hl : l.length ≤ 1000) : Fn Try.prog 90 [mnA m, sgsA l] (.tup [iv (colN m l), iv (colE m l)]) := by
  have hpl := prL_len m l
  have hp0 : (1 : Int) = 2 ^ 0 := by decide
  refine Fn.go Try.func90 Try.ntmps90 (fun g w d => ?_)
  refine X.seq ?_
  refine X.region ?_
  refine Ex.ba ?_
  iterate 2 refine Ex.pu ?_
  refine Ex.nil ?_
  refine X.seq ?_
  refine X.region ?_
  iterate 2 refine Ex.pu ?_
  refine Ex.ca (C_tactusref11_Pairs' m l hl) ?_
  iterate 5 refine Ex.pu ?_
  refine Ex.nil ?_
  refine X.seq ?_
  refine X.seq ?_
  refine X.region ?_
  iterate 2 refine Ex.pu ?_
  refine Ex.nil ?_
  refine X.cd rfl (fun hc1 => ?_) (fun hc1 => ?_)
  · refine X.seq ?_
    refine X.region ?_
    iterate 3 refine Ex.pu ?_
    refine Ex.nil ?_
    refine X.ret ?_
    
    refine RetQ.ret (.many (by decide) (.cons (.tmp rfl (LeV.eq ?_)) (.cons (.tmp rfl (LeV.eq ?_)) .nil)))
    all_goals (first | exact congrArg (AV.int .i64) (colN_0 hc1) | exact congrArg (AV.int .i64) (colE_0 hc1) | exact congrArg (AV.int .i64) (colN_1 hc1 hk6) | exact congrArg (AV.int .i64) (colE_1 hc1 hk6) | exact congrArg (AV.int .i64) (colN_2 hc1 hkl hk.2) | exact congrArg (AV.int .i64) (colE_2 hc1 hkl hk.2))
  refine X.skip ?_
  refine X.seq ?_
  refine X.region ?_
  refine Ex.pu ?_
  refine Ex.nil ?_
  refine X.seq ?_
  refine X.seq ?_
  refine X.region ?_
  refine Ex.pu ?_
  refine Ex.nil ?_
  refine X.block ?_
  refine X.lp (ι := Nat) (fun (k : Nat) => [(6, intsA (prL m l)), (8, iv (2 ^ k)), (9, iv (k : Int))]) (fun (k : Nat) => []) (fun (k : Nat) => k ≤ (prL m l).length ∧ k ≤ 6) (fun (k : Nat) => (prL m l).length - k) 0 (fun k hk => ?_)
  refine X.seq ?_
  refine X.seq ?_
  refine X.region ?_
  iterate 4 refine Ex.pu ?_
  refine Ex.nil ?_
  refine X.cd rfl (fun hc2 => ?_) (fun hc2 => ?_)
  · have hb := pow2_tab (k := k) (by omega)
    have hs := pow2_s k
    refine X.skip ?_
    refine X.seq ?_
    refine X.block ?_
    refine X.seq ?_
    refine X.region ?_
    iterate 3 refine Ex.pu ?_
    refine Ex.nil ?_
    refine X.seq ?_
    refine X.region ?_
    iterate 2 refine Ex.pu ?_
    refine Ex.nil ?_
    refine X.cd rfl (fun hc3 => ?_) (fun hc3 => ?_)
    · have hk6 : 6 < (prL m l).length := by
        apply Classical.byContradiction; intro hn
        have hb2 := pow2_tab (k := k + 1) (by omega)
        omega
      refine X.seq ?_
      refine X.region ?_
      iterate 2 refine Ex.pu ?_
      refine Ex.nil ?_
      refine X.ret ?_
      
      refine RetQ.ret (.many (by decide) (.cons (.tmp rfl (LeV.eq ?_)) (.cons (.tmp rfl (LeV.eq ?_)) .nil)))
      all_goals (first | exact congrArg (AV.int .i64) (colN_0 hc1) | exact congrArg (AV.int .i64) (colE_0 hc1) | exact congrArg (AV.int .i64) (colN_1 hc1 hk6) | exact congrArg (AV.int .i64) (colE_1 hc1 hk6) | exact congrArg (AV.int .i64) (colN_2 hc1 hkl hk.2) | exact congrArg (AV.int .i64) (colE_2 hc1 hkl hk.2))
    have hk6 : k + 1 ≤ 6 := by
      apply Classical.byContradiction; intro hn
      have hke : k = 6 := by omega
      subst hke
      have := pow2_7
      omega
    refine X.skip ?_
    refine X.region ?_
    iterate 3 refine Ex.pu ?_
    refine Ex.nil ?_
    refine X.bk (k + 1)
  · have hkl : k = (prL m l).length := by omega
    refine X.exit ?_
    refine X.seq ?_
    refine X.region ?_
    iterate 3 refine Ex.pu ?_
    refine Ex.nil ?_
    refine X.ret ?_
    
    refine RetQ.ret (.many (by decide) (.cons (.tmp rfl (LeV.eq ?_)) (.cons (.tmp rfl (LeV.eq ?_)) .nil)))
    all_goals (first | exact congrArg (AV.int .i64) (colN_0 hc1) | exact congrArg (AV.int .i64) (colE_0 hc1) | exact congrArg (AV.int .i64) (colN_1 hc1 hk6) | exact congrArg (AV.int .i64) (colE_1 hc1 hk6) | exact congrArg (AV.int .i64) (colN_2 hc1 hkl hk.2) | exact congrArg (AV.int .i64) (colE_2 hc1 hkl hk.2))
end Go.Rse
