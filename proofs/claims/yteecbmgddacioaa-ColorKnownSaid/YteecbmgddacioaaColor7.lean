/-
  Walks: Rule, Count, Of.
-/
import Derived.Test.YteecbmgddacioaaColor6
namespace Go.Rse
open Go Go.Proofs
set_option linter.unusedVariables false
set_option linter.unusedSimpArgs false
attribute [local irreducible] Pur StepA StepM Ex X ExG Fn Imp LeV LeB FnO It YStep
attribute [local irreducible] pairB pairK pairL isPair ckD
theorem C_color_Pairs' (m : Mn) (l : List Sg) (hl : l.length ≤ 1000) : FnO Try.prog 68 [mnA m, sgsA l] [] [] (.tup [.own 39, iv (ckD m l)]) [(39, .row intE (prL m l) 3 1)] := C_color_Pairs m l hl
def ruK (p : List Int) (k : Nat) : List Int := twos k ++ p.drop k
theorem ruK_len {p : List Int} {k : Nat} (h : k ≤ p.length) : (ruK p k).length = p.length := by unfold ruK; rw [List.length_append, twos_len, List.length_drop]; omega
theorem ruK_set {p : List Int} {k : Nat} (h : k < p.length) : (ruK p k).set k 2 = ruK p (k + 1) := by
  unfold ruK
  rw [List.set_append_right _ _ (by rw [twos_len]; omega), twos_len, Nat.sub_self, ← twos_snoc, List.append_assoc]
  congr 1
  rw [List.drop_eq_getElem_cons h]; rfl
theorem ruK_0 (p : List Int) : p = ruK p 0 := by unfold ruK twos; rfl
theorem ruK_e (p : List Int) : ruK p p.length = twos p.length := by unfold ruK; rw [List.drop_length, List.append_nil]
theorem prL_no {m : Mn} {l : List Sg} (h : ¬ ckD m l = 0) : prL m l = [] := by unfold prL; rw [if_neg h]
theorem shl_in {k : Nat} (h : k ≤ 6) : IntKind.i64.wrap (1 * 2 ^ (k : Int).toNat) = 1 * 2 ^ (k : Int).toNat := by
  rcases k with _ | _ | _ | _ | _ | _ | _ | k <;> first | omega | rfl
theorem pow_nt (k : Nat) : (1 : Int) * 2 ^ (k : Int).toNat = 2 ^ k := by rw [Int.one_mul]; rfl
attribute [local irreducible] prL twos ruK
theorem C_color_Rule (m : Mn) (l : List Sg) (hl : l.length ≤ 1000) : Fn Try.prog 69 [mnA m, sgsA l] (.tup [intsA (twos (prL m l).length), iv (ckD m l)]) := by
  have hq0 := ruK_0 (prL m l)
  have hqe := ruK_e (prL m l)
  have hpl := prL_len m l
  refine Fn.go Try.func69 Try.ntmps69 (fun g w d => ?_)
  refine X.seq ?_
  refine X.region ?_
  refine Ex.ba ?_
  iterate 2 refine Ex.pu ?_
  refine Ex.nil ?_
  refine X.seq ?_
  refine X.region ?_
  iterate 2 refine Ex.pu ?_
  refine Ex.co [(39, 39)] (C_color_Pairs' m l hl) ?_
  iterate 5 refine Ex.pu ?_
  refine Ex.nil ?_
  refine X.seq ?_
  refine X.seq ?_
  refine X.region ?_
  iterate 2 refine Ex.pu ?_
  refine Ex.nil ?_
  refine X.cd rfl (fun hc1 => ?_) (fun hc1 => ?_)
  · have ht : [] = twos (prL m l).length := by rw [prL_no hc1]; unfold twos; rfl
    refine X.seq ?_
    refine X.region ?_
    iterate 3 refine Ex.pu ?_
    refine Ex.nil ?_
    refine X.ret ?_
    refine RetQ.imp (Imp.au (ts := [(4, intsA []), (5, iv (ckD m l))]) (hs := [])) ?_
    refine RetQ.ret (.many (by decide) (.cons (.tmp rfl (LeV.eq ?_)) (.cons (.tmp rfl (LeV.eq ?_)) .nil)))
    all_goals (first | rfl | exact congrArg intsA ht | exact congrArg intsA hqe | exact congrArg (AV.int .i64) hc1.symm)
  refine X.skip ?_
  refine X.seq ?_
  refine X.seq ?_
  refine X.region ?_
  iterate 3 refine Ex.pu ?_
  refine Ex.nil ?_
  refine X.block ?_
  refine X.lp (ι := Nat) (fun (k : Nat) => [(6, .own 39), (7, iv 0), (19, iv ((prL m l).length : Int)), (20, iv (k : Int))]) (fun (k : Nat) => [(39, .row intE (ruK (prL m l) k) 3 1)]) (fun (k : Nat) => k ≤ (prL m l).length) (fun (k : Nat) => (prL m l).length - k) 0 (fun k hk => ?_)
  refine X.seq ?_
  refine X.region ?_
  refine Ex.pu ?_
  refine Ex.nil ?_
  refine X.seq ?_
  refine X.cd rfl (fun hc2 => ?_) (fun hc2 => ?_)
  · have hlen := ruK_len (p := prL m l) (k := k) (by omega)
    have hst := ruK_set (p := prL m l) (k := k) (by omega)
    refine X.skip ?_
    refine X.seq ?_
    refine X.block ?_
    refine X.seq ?_
    refine X.region ?_
    iterate 2 refine Ex.pu ?_
    refine Ex.nil ?_
    refine X.region ?_
    iterate 3 refine Ex.pu ?_
    refine Ex.mo ?_
    refine Ex.nil ?_
    refine X.region ?_
    iterate 2 refine Ex.pu ?_
    refine Ex.nil ?_
    refine X.bk (k + 1)
  · have hkl : k = (prL m l).length := by omega
    subst hkl
    refine X.exit ?_
    refine X.seq ?_
    refine X.region ?_
    iterate 3 refine Ex.pu ?_
    refine Ex.nil ?_
    refine X.ret ?_
    refine RetQ.imp (Imp.freeze (k := 39) rfl) ?_
    refine RetQ.ret (.many (by decide) (.cons (.tmp rfl (LeV.eq ?_)) (.cons (.tmp rfl (LeV.eq ?_)) .nil)))
    all_goals (first | rfl | exact congrArg intsA ht | exact congrArg intsA hqe | exact congrArg (AV.int .i64) hc1.symm)
theorem C_color_Count (m : Mn) (l : List Sg) (hl : l.length ≤ 1000) : Fn Try.prog 83 [mnA m, sgsA l] (.tup [iv (colN m l), iv (colE m l)]) := by
  refine Fn.go Try.func83 Try.ntmps83 (fun g w d => ?_)
  refine X.seq ?_
  refine X.region ?_
  refine Ex.ba ?_
  iterate 2 refine Ex.pu ?_
  refine Ex.nil ?_
  refine X.seq ?_
  refine X.region ?_
  iterate 2 refine Ex.pu ?_
  refine Ex.co [(39, 39)] (C_color_Pairs' m l hl) ?_
  iterate 5 refine Ex.pu ?_
  refine Ex.nil ?_
  refine X.seq ?_
  refine X.seq ?_
  refine X.region ?_
  iterate 2 refine Ex.pu ?_
  refine Ex.nil ?_
  refine X.cd rfl (fun hc1 => ?_) (fun hc1 => ?_)
  · refine X.seq ?_
    refine X.region ?_
    iterate 3 refine Ex.pu ?_
    refine Ex.nil ?_
    refine X.ret ?_
    refine RetQ.imp (Imp.au (ts := [(4, iv 0), (5, iv (ckD m l))]) (hs := [])) ?_
    refine RetQ.ret (.many (by decide) (.cons (.tmp rfl (LeV.eq ?_)) (.cons (.tmp rfl (LeV.eq ?_)) .nil)))
    all_goals (first | exact congrArg (AV.int .i64) (colN_0 hc1) | exact congrArg (AV.int .i64) (colE_0 hc1) | exact congrArg (AV.int .i64) (colN_1 hc1 (by omega)) | exact congrArg (AV.int .i64) (colE_1 hc1 (by omega)) | exact congrArg (AV.int .i64) ((pow_nt _).trans (colN_2 hc1 rfl (by omega))) | exact congrArg (AV.int .i64) (colE_2 hc1 rfl (by omega)))
  refine X.skip ?_
  refine X.seq ?_
  refine X.seq ?_
  refine X.region ?_
  iterate 3 refine Ex.pu ?_
  refine Ex.nil ?_
  refine X.cd rfl (fun hc2 => ?_) (fun hc2 => ?_)
  · refine X.seq ?_
    refine X.region ?_
    iterate 2 refine Ex.pu ?_
    refine Ex.nil ?_
    refine X.ret ?_
    refine RetQ.imp (Imp.au (ts := [(4, iv 0), (5, iv 15)]) (hs := [])) ?_
    refine RetQ.ret (.many (by decide) (.cons (.tmp rfl (LeV.eq ?_)) (.cons (.tmp rfl (LeV.eq ?_)) .nil)))
    all_goals (first | exact congrArg (AV.int .i64) (colN_0 hc1) | exact congrArg (AV.int .i64) (colE_0 hc1) | exact congrArg (AV.int .i64) (colN_1 hc1 (by omega)) | exact congrArg (AV.int .i64) (colE_1 hc1 (by omega)) | exact congrArg (AV.int .i64) ((pow_nt _).trans (colN_2 hc1 rfl (by omega))) | exact congrArg (AV.int .i64) (colE_2 hc1 rfl (by omega)))
  refine X.skip ?_
  refine X.seq ?_
  refine X.region ?_
  iterate 2 refine Ex.pu ?_
  refine Ex.pu (hs := P_shl rfl rfl (by omega) (by omega) (shl_in (by omega))) ?_
  iterate 2 refine Ex.pu ?_
  refine Ex.nil ?_
  refine X.ret ?_
  refine RetQ.imp (Imp.au (ts := [(4, iv (1 * 2 ^ ((prL m l).length : Int).toNat)), (5, iv 0)]) (hs := [])) ?_
  refine RetQ.ret (.many (by decide) (.cons (.tmp rfl (LeV.eq ?_)) (.cons (.tmp rfl (LeV.eq ?_)) .nil)))
  all_goals (first | exact congrArg (AV.int .i64) (colN_0 hc1) | exact congrArg (AV.int .i64) (colE_0 hc1) | exact congrArg (AV.int .i64) (colN_1 hc1 (by omega)) | exact congrArg (AV.int .i64) (colE_1 hc1 (by omega)) | exact congrArg (AV.int .i64) ((pow_nt _).trans (colN_2 hc1 rfl (by omega))) | exact congrArg (AV.int .i64) (colE_2 hc1 rfl (by omega)))
end Go.Rse
