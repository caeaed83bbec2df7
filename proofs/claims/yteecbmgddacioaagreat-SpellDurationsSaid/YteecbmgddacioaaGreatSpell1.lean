/-
  Walks: repeated values, durations of ways, rests.
-/
import Derived.Test.YteecbmgddacioaaGreatColor2
import Derived.Test.YteecbmgddacioaaGreatShelf0
import Derived.Test.YteecbmgddacioaaGreatRse35
import Derived.Test.YteecbmgddacioaaGreatRse27
namespace Go.Rse
open Go Go.Proofs
set_option linter.unusedVariables false
set_option linter.unusedSimpArgs false
attribute [local irreducible] Pur StepA StepM Ex X ExG LeV LeB FnO It YStep
theorem C_bits_Mul (x y : Nat) (hx : x < 18446744073709551616) (hy : y < 18446744073709551616) : Fn Tryz.prog 67 [.int .u64 (x : Int), .int .u64 (y : Int)] (.tup [.int .u64 ((x * y / 18446744073709551616 : Nat) : Int), .int .u64 ((x * y % 18446744073709551616 : Nat) : Int)]) := by
  refine ⟨by kernel_rfl, rfl, fun g w args him hr => ?_⟩
  obtain ⟨hl, hv⟩ := hr
  have e : args = [.int .u64 (x : Int), .int .u64 (y : Int)] := by
    match args, hl with
    | [a, b], _ =>
      rw [inv_int (hv 0 _ a rfl rfl), inv_int (hv 1 _ b rfl rfl)]
  subst e
  refine Calls.mono (Tryz.bits_Mul x y hx hy w) ?_
  rintro e w' ⟨rfl, rfl⟩
  refine ⟨_, g, rfl, .tup _ [.int .u64 ((x * y / 18446744073709551616 : Nat) : Int), .int .u64 ((x * y % 18446744073709551616 : Nat) : Int)] rfl (fun j c v hc hv => ?_), Add.refl _ g _, him⟩
  rcases j with _ | _ | j
  · simp at hc hv; subst hc; subst hv; exact .int _ _
  · simp at hc hv; subst hc; subst hv; exact .int _ _
  · simp at hc
attribute [local irreducible] Fn
theorem hzS : ∀ (I : Im) (j : Nat) c, (intE 0)[j]? = some c → RV I noNames c (.int .i64 0) := fun I j c h => by
  cases j with
  | zero => simp [intE] at h; subst h; exact .int _ _
  | succ j => simp [intE] at h
/-- A row of n cells of which the first j hold v. -/
def rpK (v : Int) (n j : Nat) : List Int := List.replicate j v ++ List.replicate (n - j) 0
theorem rpK_len {v : Int} {n j : Nat} (h : j ≤ n) : (rpK v n j).length = n := by unfold rpK; simp; omega
theorem rpK_0 (v : Int) (n : Nat) : [v].take (List.replicate n (0 : Int)).length ++ (List.replicate n (0 : Int)).drop (min [v].length (List.replicate n (0 : Int)).length) = rpK v n (min 1 n) := by
  unfold rpK
  cases n with
  | zero => rfl
  | succ n => simp [List.replicate_succ]
theorem rpK_s {v : Int} {n j : Nat} (h : j ≤ n) (i m : Nat) (hi : i = j) (hm : m = min j (n - j)) : (rpK v n j).take i ++ (rpK v n j).take m ++ (rpK v n j).drop (i + m) = rpK v n (j + m) := by
  subst hi
  have h1 : (rpK v n i).take i = List.replicate i v := by unfold rpK; rw [List.take_append_of_le_length (by simp)]; simp
  have h2 : (rpK v n i).take m = List.replicate m v := by unfold rpK; rw [List.take_append_of_le_length (by simp; omega)]; simp; omega
  have h3 : (rpK v n i).drop (i + m) = List.replicate (n - (i + m)) 0 := by
    unfold rpK
    have : (List.replicate i v ++ List.replicate (n - i) (0 : Int)).drop ((List.replicate i v).length + m) = (List.replicate (n - i) (0 : Int)).drop m := List.drop_length_add_append ..
    rw [List.length_replicate] at this
    rw [this, List.drop_replicate]; congr 1; omega
  rw [h1, h2, h3]
  unfold rpK
  rw [List.replicate_append_replicate]
theorem whQ_nn (a b : Tm) : 0 ≤ whQ a b := by
  unfold whQ
  split
  · rename_i h
    unfold whE at h
    split at h
    · rename_i h1
      have h2 := first2 h1
      have ha := ckT_b h2.1
      have hb := ckT_b h2.2
      exact Int.ediv_nonneg (Int.mul_nonneg ha.1 (by omega)) (Int.mul_nonneg hb.1 (by omega))
    · rename_i h1; exact absurd h h1
  · omega
/-- Rests: the values so far, what is left. -/
def rsP (m : Mn) (t : Tm) : Nat → List Int × Tm
  | 0 => ([], t)
  | k + 1 => ((rsP m t k).1 ++ List.replicate (whQ (rsP m t k).2 (fullT m (1 + (k : Int)))).toNat (1 + (k : Int)), whR (rsP m t k).2 (fullT m (1 + (k : Int))))
def rsOk (m : Mn) (t : Tm) (k : Nat) : Bool := decide (whE (rsP m t k).2 (fullT m (1 + (k : Int))) = 0) && decide (whQ (rsP m t k).2 (fullT m (1 + (k : Int))) ≤ 400 - ((rsP m t k).1.length : Int))
def rsAll (m : Mn) (t : Tm) : Bool := (List.range 8).all (rsOk m t) && decide ((rsP m t 8).2.N ≤ 0)
def bthE (m : Mn) (t : Tm) : Int := if ckM m = 0 then ckT t else ckM m
def rstE (m : Mn) (t : Tm) : Int := if bthE m t = 0 then (if t.N = 0 then 2 else if rsAll m t = true then 0 else 18) else bthE m t
def rstV (m : Mn) (t : Tm) : List Int := if rstE m t = 0 then (rsP m t 8).1 else []
theorem rsP_s (m : Mn) (t : Tm) (k : Nat) : rsP m t (k + 1) = ((rsP m t k).1 ++ List.replicate (whQ (rsP m t k).2 (fullT m (1 + (k : Int)))).toNat (1 + (k : Int)), whR (rsP m t k).2 (fullT m (1 + (k : Int)))) := rfl
theorem rs_len {m : Mn} {t : Tm} : ∀ k, (∀ j, j < k → rsOk m t j = true) → (rsP m t k).1.length ≤ 400
  | 0, _ => Nat.zero_le _
  | k + 1, h => by
    have ih := rs_len k fun j hj => h j (by omega)
    have hk := h k (by omega)
    unfold rsOk at hk
    simp only [Bool.and_eq_true, decide_eq_true_eq] at hk
    rw [rsP_s]
    simp only [List.length_append, List.length_replicate]
    have := whQ_nn (rsP m t k).2 (fullT m (1 + (k : Int)))
    omega
theorem rs_bad {m : Mn} {t : Tm} {k : Nat} (hk : k < 8) (h : rsOk m t k = false) : rsAll m t = false := by
  cases hA : rsAll m t with
  | false => rfl
  | true =>
    unfold rsAll at hA
    simp only [Bool.and_eq_true] at hA
    have := List.all_eq_true.1 hA.1 k (by simpa using hk)
    rw [h] at this; exact absurd this (by decide)
theorem rs_good {m : Mn} {t : Tm} (h : ∀ j, j < 8 → rsOk m t j = true) : rsAll m t = decide ((rsP m t 8).2.N ≤ 0) := by
  unfold rsAll
  have : (List.range 8).all (rsOk m t) = true := List.all_eq_true.2 fun j hj => h j (by simpa using hj)
  rw [this]; rfl
theorem rst_0 {m : Mn} {t : Tm} (h : ¬ bthE m t = 0) : bthE m t = rstE m t ∧ [] = rstV m t := by
  have e : bthE m t = rstE m t := by unfold rstE; rw [if_neg h]
  exact ⟨e, by unfold rstV; rw [if_neg (by rw [← e]; exact h)]⟩
theorem rst_2 {m : Mn} {t : Tm} (h : bthE m t = 0) (h0 : t.N = 0) : 2 = rstE m t ∧ [] = rstV m t := by
  have e : 2 = rstE m t := by unfold rstE; rw [if_pos h, if_pos h0]
  exact ⟨e, by unfold rstV; rw [if_neg (by rw [← e]; decide)]⟩
theorem rst_18 {m : Mn} {t : Tm} (h : bthE m t = 0) (h0 : ¬ t.N = 0) (hA : rsAll m t = false) : 18 = rstE m t ∧ [] = rstV m t := by
  have e : 18 = rstE m t := by unfold rstE; rw [if_pos h, if_neg h0, if_neg (by rw [hA]; decide)]
  exact ⟨e, by unfold rstV; rw [if_neg (by rw [← e]; decide)]⟩
theorem rst_ok {m : Mn} {t : Tm} (h : bthE m t = 0) (h0 : ¬ t.N = 0) (hA : rsAll m t = true) : 0 = rstE m t ∧ (rsP m t 8).1 = rstV m t := by
  have e : 0 = rstE m t := by unfold rstE; rw [if_pos h, if_neg h0, if_pos hA]
  exact ⟨e, by unfold rstV; rw [if_pos e.symm]⟩
theorem bthE_0 {m : Mn} {t : Tm} (h : bthE m t = 0) : ckM m = 0 ∧ ckT t = 0 := by
  unfold bthE at h; split at h
  · exact ⟨by assumption, h⟩
  · exact absurd h (by assumption)
attribute [local irreducible] rpK fullT durT mulV mulE whQ whR whE firstT rsP rsOk rsAll rstE rstV bthE
theorem C_slices_Repeat_int_intN (v : Int) (n : Nat) (hn : n ≤ 400) : Fn Tryz.prog 40 [intsA [v], iv (n : Int)] (intsA (List.replicate n v)) := by
  have hv1 : ([v].length : Int) = 1 := rfl
  have hmul : Fn Tryz.prog 67 [.int .u64 1, .int .u64 (n : Int)] (.tup [.int .u64 0, .int .u64 (n : Int)]) := by
    have h := C_bits_Mul 1 n (by decide) (by omega)
    rw [Nat.one_mul, Nat.div_eq_of_lt (by omega), Nat.mod_eq_of_lt (by omega)] at h; exact h
  refine Fn.go Tryz.func40 Tryz.ntmps40 (fun g w d => ?_)
  refine X.seq ?_
  refine X.region ?_
  refine Ex.pu ?_
  refine Ex.nil ?_
  refine X.seq ?_
  refine X.seq ?_
  refine X.region ?_
  iterate 2 refine Ex.pu ?_
  refine Ex.nil ?_
  refine X.cd rfl (fun hc1 => ?_) (fun hc1 => ?_)
  · omega
  refine X.skip ?_
  refine X.seq ?_
  refine X.region ?_
  iterate 2 refine Ex.pu ?_
  refine Ex.pur (P_convert rfl un85 us3 (IntWalk.u64_in _ (by omega))) rfl ?_
  refine Ex.pu ?_
  refine Ex.pur (P_convert rfl un85 us3 (IntWalk.u64_in _ (by omega))) rfl ?_
  refine Ex.ca hmul ?_
  iterate 5 refine Ex.pu ?_
  refine Ex.nil ?_
  refine X.seq ?_
  refine X.seq ?_
  refine X.region ?_
  iterate 2 refine Ex.pu ?_
  refine ExF.at 2 ?_
  refine ExF.pu ?_
  iterate 2 refine ExF.gi ?_
  refine ExF.done ?_
  refine Ex.pu ?_
  refine Ex.nil ?_
  refine X.cd rfl (fun hc2 => ?_) (fun hc2 => ?_)
  · (first | omega | (simp at hc2; omega))
  refine X.skip ?_
  refine X.seq ?_
  refine X.region ?_
  iterate 2 refine Ex.pu ?_
  refine Ex.stepA (A_makeSlice (k := 30) (enc := intE) 0 sl56 ti3 rfl (by decide) rfl rfl rfl rfl (by omega) (fun _ => rfl) hzS) rfl rfl ?_
  refine Ex.pu ?_
  refine Ex.nil ?_
  refine X.seq ?_
  refine X.region ?_
  iterate 2 refine Ex.pu ?_
  refine Ex.stepM (M_copy_sl rfl rfl rfl (fun _ => rfl) (by decide) (fun _ => rfl) sl56 ty3 rfl) ?_
  refine Ex.pu ?_
  refine Ex.nil ?_
  refine X.seq ?_
  refine X.block ?_
  have hr0 := rpK_0 v n
  have hl0 : ((min [v].length (List.replicate n (0 : Int)).length : Nat) : Int) = ((min 1 n : Nat) : Int) := by simp
  refine X.lp (ι := Nat) (fun (q : Nat) => [(7, .own 30), (8, iv (q : Int))]) (fun (q : Nat) => [(30, .row intE (rpK v n q) 3 1)]) (fun (q : Nat) => q ≤ n ∧ (n ≠ 0 → 1 ≤ q)) (fun (q : Nat) => n - q) (min 1 n) (fun q hk => ?_) (hJ := by
    exact ⟨by omega, fun _ => by omega⟩) (h0 := by
    exact Imp.ax)
  obtain ⟨hj1, hj2⟩ := hk
  have hlen := rpK_len (v := v) hj1
  refine X.seq ?_
  refine X.seq ?_
  refine X.region ?_
  iterate 4 refine Ex.pu ?_
  refine Ex.nil ?_
  refine X.cd rfl (fun hc3 => ?_) (fun hc3 => ?_)
  · have hst := rpK_s (v := v) hj1 (q : Int).toNat (min (q : Int).toNat ((rpK v n q).length - (q : Int).toNat)) (by omega) (by omega)
    have hst2 : q + min (q : Int).toNat ((rpK v n q).length - (q : Int).toNat) = q + min q (n - q) := by omega
    rw [hst2] at hst
    refine X.skip ?_
    refine X.block ?_
    refine X.drawP [⟨0, 38, iv (q : Int), []⟩, ⟨1, 39, .own 30, []⟩, ⟨2, 40, iv (q : Int), []⟩, ⟨3, 41, .sub 30 1 (q : Int).toNat ((rpK v n q).length - (q : Int).toNat), [2, 1]⟩, ⟨4, 42, .own 30, []⟩, ⟨5, 43, iv (q : Int), []⟩, ⟨6, 44, .sub 30 1 0 (q : Int).toNat, [5, 4]⟩] [(7, [5, 4, 2, 1, 6, 3]), (8, [5, 4, 2, 1, 6, 3, 7, 0]), (9, [6, 5, 4, 3, 2, 1, 0, 7, 8])] (fun j => match j with | 0 => ⟨[(7, .own 30), (8, iv (q : Int))], [(30, .row intE (rpK v n q) 3 1)]⟩ | 1 => ⟨[(7, .own 30), (8, iv (q : Int)), (45, iv ((min q (n - q) : Nat) : Int))], [(30, .row intE (rpK v n (q + min q (n - q))) 3 1)]⟩ | 2 => ⟨[(7, .own 30), (8, iv (q : Int)), (46, iv ((q + min q (n - q) : Nat) : Int))], [(30, .row intE (rpK v n (q + min q (n - q))) 3 1)]⟩ | _ => ⟨[(7, .own 30), (8, iv ((q + min q (n - q) : Nat) : Int))], [(30, .row intE (rpK v n (q + min q (n - q))) 3 1)]⟩) mo (by kernel_rfl) (Imp.SP0 (Imp.au)) (fun j hj => ?_) (fun j c hc β hβ => ?_) ?_
    · rcases j with _ | _ | _ | _ | j
      · refine ⟨.inr ⟨_, rfl, rfl, rfl, rfl, Pur.au⟩, ?_⟩
        refine ⟨.inr ⟨_, rfl, rfl, rfl, rfl, Pur.au⟩, ?_⟩
        refine ⟨.inr ⟨_, rfl, rfl, rfl, rfl, Pur.au⟩, ?_⟩
        refine ⟨.inr ⟨_, rfl, rfl, rfl, rfl, P_slice_tail rfl rfl rfl sl56 ty3 (by omega) (by omega)⟩, ?_⟩
        refine ⟨.inr ⟨_, rfl, rfl, rfl, rfl, Pur.au⟩, ?_⟩
        refine ⟨.inr ⟨_, rfl, rfl, rfl, rfl, Pur.au⟩, ?_⟩
        refine ⟨.inr ⟨_, rfl, rfl, rfl, rfl, P_slice_head rfl rfl rfl sl56 ty3 (by omega) (by omega)⟩, ?_⟩
        exact True.intro
      · refine ⟨.inr ⟨_, rfl, rfl, rfl, rfl, Pur.au⟩, ?_⟩
        refine ⟨.inl rfl, ?_⟩
        refine ⟨.inl rfl, ?_⟩
        refine ⟨.inl rfl, ?_⟩
        refine ⟨.inl rfl, ?_⟩
        refine ⟨.inl rfl, ?_⟩
        refine ⟨.inl rfl, ?_⟩
        exact True.intro
      · refine ⟨.inl rfl, ?_⟩
        refine ⟨.inl rfl, ?_⟩
        refine ⟨.inl rfl, ?_⟩
        refine ⟨.inl rfl, ?_⟩
        refine ⟨.inl rfl, ?_⟩
        refine ⟨.inl rfl, ?_⟩
        refine ⟨.inl rfl, ?_⟩
        exact True.intro
      · refine ⟨.inl rfl, ?_⟩
        refine ⟨.inl rfl, ?_⟩
        refine ⟨.inl rfl, ?_⟩
        refine ⟨.inl rfl, ?_⟩
        refine ⟨.inl rfl, ?_⟩
        refine ⟨.inl rfl, ?_⟩
        refine ⟨.inl rfl, ?_⟩
        exact True.intro
      · exact absurd (show j + 4 ≤ 3 from hj) (by omega)
    · rcases j with _ | _ | _ | j
      · obtain rfl : (7, [5, 4, 2, 1, 6, 3]) = c := by injection hc
        refine Step1.mk rfl (StepM.pre (st0 := ⟨[(38, .ifb (β 0) (iv (q : Int))), (39, .own 30), (40, iv (q : Int)), (41, .sub 30 1 (q : Int).toNat ((rpK v n q).length - (q : Int).toNat)), (42, .own 30), (43, iv (q : Int)), (44, .sub 30 1 0 (q : Int).toNat), (7, .own 30), (8, iv (q : Int))], [(30, .row intE (rpK v n q) 3 1)]⟩) (Imp.of (by (repeat' (first | exact True.intro | (refine And.intro ⟨_, rfl, ?_⟩ ?_; (first | exact LeV.refl _ | exact LeV.ifbT (hβ _ (by simp)) | exact LeV.toIfb _ _ | exact LeV.any _ | exact LeB.refl _ | (refine LeV.eq ?_; simp; done) | (refine LeV.eq ?_; congr 1; omega) | (refine LeV.eq ?_; dsimp only; congr 1; omega) | (refine LeV.eq (congrArg (AV.int _) ?_); omega) | exact LeV.nils _ | exact LeB.row (by assumption) | (refine LeB.eq ?_; congr 1; omega) | (refine LeB.eq ?_; congr 1; simp only [cond_true, cond_false]; omega)))))) (by (repeat' (first | exact True.intro | (refine And.intro ⟨_, rfl, ?_⟩ ?_; (first | exact LeV.refl _ | exact LeV.ifbT (hβ _ (by simp)) | exact LeV.toIfb _ _ | exact LeV.any _ | exact LeB.refl _ | (refine LeV.eq ?_; simp; done) | (refine LeV.eq ?_; congr 1; omega) | (refine LeV.eq ?_; dsimp only; congr 1; omega) | (refine LeV.eq (congrArg (AV.int _) ?_); omega) | exact LeV.nils _ | exact LeB.row (by assumption) | (refine LeB.eq ?_; congr 1; omega) | (refine LeB.eq ?_; congr 1; simp only [cond_true, cond_false]; omega))))))) ?_)
        refine StepM.imp (M_copy_self rfl rfl rfl (fun _ => rfl) (by decide) (fun _ => rfl) (by omega) (by omega) sl56 ty3 rfl) (Imp.of (by (repeat' (first | exact True.intro | (refine And.intro ⟨_, rfl, ?_⟩ ?_; (first | exact LeV.refl _ | exact LeV.ifbT (hβ _ (by simp)) | exact LeV.toIfb _ _ | exact LeV.any _ | exact LeB.refl _ | (refine LeV.eq ?_; simp; done) | (refine LeV.eq ?_; congr 1; omega) | (refine LeV.eq ?_; dsimp only; congr 1; omega) | (refine LeV.eq (congrArg (AV.int _) ?_); omega) | exact LeV.nils _ | exact LeB.row (by assumption) | (refine LeB.eq ?_; congr 1; omega) | (refine LeB.eq ?_; congr 1; simp only [cond_true, cond_false]; omega)))))) (by (repeat' (first | exact True.intro | (refine And.intro ⟨_, rfl, ?_⟩ ?_; (first | exact LeV.refl _ | exact LeV.ifbT (hβ _ (by simp)) | exact LeV.toIfb _ _ | exact LeV.any _ | exact LeB.refl _ | (refine LeV.eq ?_; simp; done) | (refine LeV.eq ?_; congr 1; omega) | (refine LeV.eq ?_; dsimp only; congr 1; omega) | (refine LeV.eq (congrArg (AV.int _) ?_); omega) | exact LeV.nils _ | exact LeB.row (by assumption) | (refine LeB.eq ?_; congr 1; omega) | (refine LeB.eq ?_; congr 1; simp only [cond_true, cond_false]; omega)))))))
      · obtain rfl : (8, [5, 4, 2, 1, 6, 3, 7, 0]) = c := by injection hc
        refine Step1.mk rfl (StepM.pre (st0 := ⟨[(38, iv (q : Int)), (39, .own 30), (40, iv (q : Int)), (41, .sub 30 1 (q : Int).toNat ((rpK v n q).length - (q : Int).toNat)), (42, .own 30), (43, iv (q : Int)), (44, .sub 30 1 0 (q : Int).toNat), (7, .own 30), (8, iv (q : Int)), (45, iv ((min q (n - q) : Nat) : Int))], [(30, .row intE (rpK v n (q + min q (n - q))) 3 1)]⟩) (Imp.of (by (repeat' (first | exact True.intro | (refine And.intro ⟨_, rfl, ?_⟩ ?_; (first | exact LeV.refl _ | exact LeV.ifbT (hβ _ (by simp)) | exact LeV.toIfb _ _ | exact LeV.any _ | exact LeB.refl _ | (refine LeV.eq ?_; simp; done) | (refine LeV.eq ?_; congr 1; omega) | (refine LeV.eq ?_; dsimp only; congr 1; omega) | (refine LeV.eq (congrArg (AV.int _) ?_); omega) | exact LeV.nils _ | exact LeB.row (by assumption) | (refine LeB.eq ?_; congr 1; omega) | (refine LeB.eq ?_; congr 1; simp only [cond_true, cond_false]; omega)))))) (by (repeat' (first | exact True.intro | (refine And.intro ⟨_, rfl, ?_⟩ ?_; (first | exact LeV.refl _ | exact LeV.ifbT (hβ _ (by simp)) | exact LeV.toIfb _ _ | exact LeV.any _ | exact LeB.refl _ | (refine LeV.eq ?_; simp; done) | (refine LeV.eq ?_; congr 1; omega) | (refine LeV.eq ?_; dsimp only; congr 1; omega) | (refine LeV.eq (congrArg (AV.int _) ?_); omega) | exact LeV.nils _ | exact LeB.row (by assumption) | (refine LeB.eq ?_; congr 1; omega) | (refine LeB.eq ?_; congr 1; simp only [cond_true, cond_false]; omega))))))) ?_)
        refine StepM.imp (StepA.toM (Pur.stepA (P_add rfl rfl (IntWalk.i64_in _ (by omega)))) rfl rfl) (Imp.of (by (repeat' (first | exact True.intro | (refine And.intro ⟨_, rfl, ?_⟩ ?_; (first | exact LeV.refl _ | exact LeV.ifbT (hβ _ (by simp)) | exact LeV.toIfb _ _ | exact LeV.any _ | exact LeB.refl _ | (refine LeV.eq ?_; simp; done) | (refine LeV.eq ?_; congr 1; omega) | (refine LeV.eq ?_; dsimp only; congr 1; omega) | (refine LeV.eq (congrArg (AV.int _) ?_); omega) | exact LeV.nils _ | exact LeB.row (by assumption) | (refine LeB.eq ?_; congr 1; omega) | (refine LeB.eq ?_; congr 1; simp only [cond_true, cond_false]; omega)))))) (by (repeat' (first | exact True.intro | (refine And.intro ⟨_, rfl, ?_⟩ ?_; (first | exact LeV.refl _ | exact LeV.ifbT (hβ _ (by simp)) | exact LeV.toIfb _ _ | exact LeV.any _ | exact LeB.refl _ | (refine LeV.eq ?_; simp; done) | (refine LeV.eq ?_; congr 1; omega) | (refine LeV.eq ?_; dsimp only; congr 1; omega) | (refine LeV.eq (congrArg (AV.int _) ?_); omega) | exact LeV.nils _ | exact LeB.row (by assumption) | (refine LeB.eq ?_; congr 1; omega) | (refine LeB.eq ?_; congr 1; simp only [cond_true, cond_false]; omega)))))))
      · obtain rfl : (9, [6, 5, 4, 3, 2, 1, 0, 7, 8]) = c := by injection hc
        refine Step1.mk rfl (StepM.pre (st0 := ⟨[(38, iv (q : Int)), (39, .own 30), (40, iv (q : Int)), (41, .sub 30 1 (q : Int).toNat ((rpK v n q).length - (q : Int).toNat)), (42, .own 30), (43, iv (q : Int)), (44, .sub 30 1 0 (q : Int).toNat), (7, .own 30), (8, iv (q : Int)), (46, iv ((q + min q (n - q) : Nat) : Int))], [(30, .row intE (rpK v n (q + min q (n - q))) 3 1)]⟩) (Imp.of (by (repeat' (first | exact True.intro | (refine And.intro ⟨_, rfl, ?_⟩ ?_; (first | exact LeV.refl _ | exact LeV.ifbT (hβ _ (by simp)) | exact LeV.toIfb _ _ | exact LeV.any _ | exact LeB.refl _ | (refine LeV.eq ?_; simp; done) | (refine LeV.eq ?_; congr 1; omega) | (refine LeV.eq ?_; dsimp only; congr 1; omega) | (refine LeV.eq (congrArg (AV.int _) ?_); omega) | exact LeV.nils _ | exact LeB.row (by assumption) | (refine LeB.eq ?_; congr 1; omega) | (refine LeB.eq ?_; congr 1; simp only [cond_true, cond_false]; omega)))))) (by (repeat' (first | exact True.intro | (refine And.intro ⟨_, rfl, ?_⟩ ?_; (first | exact LeV.refl _ | exact LeV.ifbT (hβ _ (by simp)) | exact LeV.toIfb _ _ | exact LeV.any _ | exact LeB.refl _ | (refine LeV.eq ?_; simp; done) | (refine LeV.eq ?_; congr 1; omega) | (refine LeV.eq ?_; dsimp only; congr 1; omega) | (refine LeV.eq (congrArg (AV.int _) ?_); omega) | exact LeV.nils _ | exact LeB.row (by assumption) | (refine LeB.eq ?_; congr 1; omega) | (refine LeB.eq ?_; congr 1; simp only [cond_true, cond_false]; omega))))))) ?_)
        refine StepM.imp (StepA.toM (Pur.stepA (P_assign rfl)) rfl rfl) (Imp.of (by (repeat' (first | exact True.intro | (refine And.intro ⟨_, rfl, ?_⟩ ?_; (first | exact LeV.refl _ | exact LeV.ifbT (hβ _ (by simp)) | exact LeV.toIfb _ _ | exact LeV.any _ | exact LeB.refl _ | (refine LeV.eq ?_; simp; done) | (refine LeV.eq ?_; congr 1; omega) | (refine LeV.eq ?_; dsimp only; congr 1; omega) | (refine LeV.eq (congrArg (AV.int _) ?_); omega) | exact LeV.nils _ | exact LeB.row (by assumption) | (refine LeB.eq ?_; congr 1; omega) | (refine LeB.eq ?_; congr 1; simp only [cond_true, cond_false]; omega)))))) (by (repeat' (first | exact True.intro | (refine And.intro ⟨_, rfl, ?_⟩ ?_; (first | exact LeV.refl _ | exact LeV.ifbT (hβ _ (by simp)) | exact LeV.toIfb _ _ | exact LeV.any _ | exact LeB.refl _ | (refine LeV.eq ?_; simp; done) | (refine LeV.eq ?_; congr 1; omega) | (refine LeV.eq ?_; dsimp only; congr 1; omega) | (refine LeV.eq (congrArg (AV.int _) ?_); omega) | exact LeV.nils _ | exact LeB.row (by assumption) | (refine LeB.eq ?_; congr 1; omega) | (refine LeB.eq ?_; congr 1; simp only [cond_true, cond_false]; omega)))))))
      · exact absurd hc (by simp)
    refine X.bk (q + min q (n - q)) (hJ := by
      exact ⟨by omega, fun _ => by omega⟩) (hm := by omega) (hI := Imp.ax)
  · have hjn : q = n := by omega
    subst hjn
    have hfin : rpK v q q = List.replicate q v := by unfold rpK; simp
    refine X.exit ?_
    refine X.seq ?_
    refine X.region ?_
    iterate 2 refine Ex.pu ?_
    refine Ex.nil ?_
    refine X.ret ?_
    refine RetQ.imp (Imp.freeze (k := 30) rfl) ?_
    refine RetQ.ret (.one (.tmp rfl (LeV.eq ?_)))
    all_goals (exact congrArg intsA hfin)
theorem C_slices_Repeat_int_int (v n : Int) (h0 : 0 ≤ n) (h4 : n ≤ 400) : Fn Tryz.prog 40 [intsA [v], iv n] (intsA (List.replicate n.toNat v)) := by
  obtain ⟨k, rfl⟩ := Int.eq_ofNat_of_zero_le h0
  rw [Int.toNat_natCast]
  exact C_slices_Repeat_int_intN v k (by omega)
theorem C_spell_both (m : Mn) (t : Tm) : Fn Tryz.prog 36 [mnA m, tmA t] (iv (bthE m t)) := by
  refine Fn.go Tryz.func36 Tryz.ntmps36 (fun g w d => ?_)
  refine X.seq ?_
  refine X.region ?_
  refine Ex.ba ?_
  refine Ex.ba ?_
  refine Ex.pu ?_
  refine Ex.nil ?_
  refine X.seq ?_
  refine X.seq ?_
  refine X.region ?_
  refine Ex.pu ?_
  refine Ex.ca (C_mens_Check m) ?_
  refine Ex.pu ?_
  refine Ex.nil ?_
  refine X.seq ?_
  refine X.region ?_
  iterate 2 refine Ex.pu ?_
  refine Ex.nil ?_
  refine X.cd rfl (fun hc1 => ?_) (fun hc1 => ?_)
  · refine X.seq ?_
    refine X.region ?_
    iterate 2 refine Ex.pu ?_
    refine Ex.nil ?_
    refine X.ret ?_
    refine RetQ.ret (.one (.tmp rfl (LeV.eq ?_)))
    all_goals (unfold bthE; first | (rw [if_neg hc1]; done) | (rw [if_pos hc1]; done))
  refine X.skip ?_
  refine X.seq ?_
  refine X.region ?_
  refine Ex.pu ?_
  refine Ex.ca (C_span_Check t) ?_
  refine Ex.pu ?_
  refine Ex.nil ?_
  refine X.ret ?_
  refine RetQ.ret (.one (.tmp rfl (LeV.eq ?_)))
  all_goals (unfold bthE; first | (rw [if_neg hc1]; done) | (rw [if_pos hc1]; done))
theorem C_spell_full (m : Mn) (v : Int) (hm : ckM m = 0) (h1 : 1 ≤ v) (h8 : v ≤ 8) : Fn Tryz.prog 39 [mnA m, iv v] (tmA (fullT m v)) := by
  refine Fn.go Tryz.func39 Tryz.ntmps39 (fun g w d => ?_)
  refine X.seq ?_
  refine X.region ?_
  refine Ex.ba ?_
  refine Ex.al ?_
  refine Ex.nil ?_
  refine X.seq ?_
  refine X.region ?_
  iterate 2 refine Ex.pu ?_
  refine Ex.ca (C_mens_FullV hm h1 h8) ?_
  iterate 3 refine Ex.pu ?_
  refine Ex.al ?_
  refine Ex.mo ?_
  refine Ex.pu ?_
  refine Ex.nil ?_
  refine X.seq ?_
  refine X.region ?_
  refine Ex.pu ?_
  refine Ex.mo ?_
  refine Ex.nil ?_
  refine X.ret ?_
  refine RetQ.ret (.one (.cellA rfl rfl rfl rfl ty51 (LeV.eq ?_)))
  all_goals (rfl)
theorem C_spell_perfect (m : Mn) (v : Int) (hm : ckM m = 0) (h1 : 1 ≤ v) (h8 : v ≤ 8) : Fn Tryz.prog 43 [mnA m, iv v] (.bool (decide (m.p v = 3))) := by
  refine Fn.go Tryz.func43 Tryz.ntmps43 (fun g w d => ?_)
  refine X.seq ?_
  refine X.region ?_
  refine Ex.ba ?_
  refine Ex.pu ?_
  refine Ex.nil ?_
  refine X.seq ?_
  refine X.region ?_
  iterate 2 refine Ex.pu ?_
  refine Ex.ca (C_mens_PartsV hm h1 h8) ?_
  iterate 5 refine Ex.pu ?_
  refine Ex.nil ?_
  refine X.seq ?_
  refine X.region ?_
  iterate 3 refine Ex.pu ?_
  refine Ex.nil ?_
  refine X.ret ?_
  refine RetQ.ret (.one (.tmp rfl (LeV.eq ?_)))
  all_goals (rfl)
theorem C_spell_times (t : Tm) (n q : Int) : Fn Tryz.prog 44 [tmA t, iv n, iv q] (tmsA [mulV t ⟨n, q⟩]) := by
  refine Fn.go Tryz.func44 Tryz.ntmps44 (fun g w d => ?_)
  refine X.seq ?_
  refine X.region ?_
  refine Ex.ba ?_
  refine Ex.pu ?_
  refine Ex.nil ?_
  refine X.seq ?_
  refine X.region ?_
  iterate 4 refine Ex.pu ?_
  refine Ex.ca (C_span_Mul t ⟨n, q⟩) ?_
  iterate 3 refine Ex.pu ?_
  refine Ex.al ?_
  refine Ex.mo ?_
  refine Ex.pu ?_
  refine Ex.nil ?_
  refine X.seq ?_
  refine X.region ?_
  refine Ex.pu ?_
  refine Ex.bs tmE [mulV t ⟨n, q⟩] ?_
  refine Ex.pu ?_
  refine Ex.nil ?_
  refine X.ret ?_
  refine RetQ.imp (Imp.freeze (k := 18) rfl) ?_
  refine RetQ.ret (.one (.tmp rfl (LeV.eq ?_)))
  all_goals (rfl)
theorem C_spell_tinted (m : Mn) (v : Int) (hm : ckM m = 0) (h1 : 1 ≤ v) (h8 : v ≤ 8) : Fn Tryz.prog 48 [mnA m, iv v] (tmA (durT m v)) := by
  have hD := C_color_Dur m v
  rw [ckMV_0 hm h1 h8, if_pos rfl] at hD
  refine Fn.go Tryz.func48 Tryz.ntmps48 (fun g w d => ?_)
  refine X.seq ?_
  refine X.region ?_
  refine Ex.ba ?_
  refine Ex.al ?_
  refine Ex.nil ?_
  refine X.seq ?_
  refine X.region ?_
  iterate 2 refine Ex.pu ?_
  refine Ex.ca hD ?_
  iterate 3 refine Ex.pu ?_
  refine Ex.al ?_
  refine Ex.mo ?_
  refine Ex.pu ?_
  refine Ex.nil ?_
  refine X.seq ?_
  refine X.region ?_
  refine Ex.pu ?_
  refine Ex.mo ?_
  refine Ex.nil ?_
  refine X.ret ?_
  refine RetQ.ret (.one (.cellA rfl rfl rfl rfl ty51 (LeV.eq ?_)))
  all_goals (rfl)
set_option maxHeartbeats 2000000 in
theorem C_spell_Rests (m : Mn) (t : Tm) : Fn Tryz.prog 19 [mnA m, tmA t] (.tup [intsA (rstV m t), iv (rstE m t)]) := by
  refine Fn.go Tryz.func19 Tryz.ntmps19 (fun g w d => ?_)
  refine X.seq ?_
  refine X.region ?_
  refine Ex.ba ?_
  refine Ex.ba ?_
  iterate 2 refine Ex.pu ?_
  refine Ex.nil ?_
  refine X.seq ?_
  refine X.seq ?_
  refine X.region ?_
  iterate 2 refine Ex.pu ?_
  refine Ex.ca (C_spell_both m t) ?_
  refine Ex.pu ?_
  refine Ex.nil ?_
  refine X.seq ?_
  refine X.region ?_
  iterate 2 refine Ex.pu ?_
  refine Ex.nil ?_
  refine X.cd rfl (fun hc1 => ?_) (fun hc1 => ?_)
  · have hV := rst_0 hc1
    refine X.seq ?_
    refine X.region ?_
    iterate 3 refine Ex.pu ?_
    refine Ex.nil ?_
    refine X.ret ?_
    refine RetQ.imp (Imp.au (ts := [(4, intsA []), (5, iv (bthE m t))]) (hs := [])) ?_
    refine RetQ.ret (.many (by decide) (.cons (.tmp rfl (LeV.eq ?_)) (.cons (.tmp rfl (LeV.eq ?_)) .nil)))
    all_goals (first | exact congrArg intsA hV.2 | exact congrArg (AV.int .i64) hV.1)
  refine X.skip ?_
  refine X.seq ?_
  refine X.seq ?_
  refine X.region ?_
  iterate 3 refine Ex.pu ?_
  refine Ex.nil ?_
  refine X.cd rfl (fun hc2 => ?_) (fun hc2 => ?_)
  · have hV := rst_2 hc1 hc2
    refine X.seq ?_
    refine X.region ?_
    iterate 2 refine Ex.pu ?_
    refine Ex.nil ?_
    refine X.ret ?_
    refine RetQ.imp (Imp.au (ts := [(4, intsA []), (5, iv 2)]) (hs := [])) ?_
    refine RetQ.ret (.many (by decide) (.cons (.tmp rfl (LeV.eq ?_)) (.cons (.tmp rfl (LeV.eq ?_)) .nil)))
    all_goals (first | exact congrArg intsA hV.2 | exact congrArg (AV.int .i64) hV.1)
  refine X.skip ?_
  refine X.seq ?_
  refine X.region ?_
  refine Ex.pu ?_
  refine Ex.nil ?_
  refine X.seq ?_
  refine X.seq ?_
  refine X.imp (Imp.mkrow intE 3 1 7 7 rfl rfl) ?_
  refine X.region ?_
  refine Ex.pu ?_
  refine Ex.nil ?_
  refine X.block ?_
  have hq0 : [] = (rsP m t 0).1 := by unfold rsP; rfl
  have hq1 : tmE t = tmE (rsP m t 0).2 := by unfold rsP; rfl
  have hck := bthE_0 hc1
  refine X.lp (ι := Nat) (fun (k : Nat) => [(2, .ptr 2 0 0 0), (3, .ptr 3 0 0 0), (7, .own 7), (8, iv (1 + (k : Int)))]) (fun (k : Nat) => [(2, .box (mnE m) 23), (3, .box (tmE (rsP m t k).2) 51), (7, .row intE (rsP m t k).1 3 1)]) (fun (k : Nat) => k ≤ 8 ∧ ∀ j, j < k → rsOk m t j = true) (fun (k : Nat) => 8 - k) 0 (fun k hk => ?_) (hJ := by
    exact ⟨by omega, fun j hj => by omega⟩) (h0 := by
    exact Imp.ax)
  obtain ⟨hk1, hk2⟩ := hk
  have hrl := rs_len k hk2
  refine X.seq ?_
  refine X.seq ?_
  refine X.region ?_
  iterate 2 refine Ex.pu ?_
  refine Ex.nil ?_
  refine X.cd rfl (fun hc3 => ?_) (fun hc3 => ?_)
  · have hq := whQ_nn (rsP m t k).2 (fullT m (1 + (k : Int)))
    refine X.skip ?_
    refine X.seq ?_
    refine X.block ?_
    refine X.seq ?_
    refine X.dw [9,10,25,26,27,28,29,30,31,32,33] [0,0,0,6,15,31,63,63,63,0,639,1791,4095] mo ?_
    iterate 3 refine ChM.pu ?_
    refine ChM.ca (C_spell_full m (1 + (k : Int)) hck.1 (by omega) (by omega)) ?_
    refine ChM.ca (C_span_Whole (rsP m t k).2 (fullT m (1 + (k : Int)))) ?_
    iterate 4 refine ChM.pu ?_
    refine ChM.step rfl rfl rfl (A_alloc (k := 10) zc51) rfl ?_
    refine ChM.pu ?_
    refine ChM.ltJ 8 ⟨[(2, .ptr 2 0 0 0), (3, .ptr 3 0 0 0), (7, .own 7), (8, iv (1 + (k : Int))), (9, iv (whQ (rsP m t k).2 (fullT m (1 + (k : Int))))), (10, .ptr 10 0 0 0), (11, iv (whE (rsP m t k).2 (fullT m (1 + (k : Int)))))], [(2, .box (mnE m) 23), (3, .box (tmE (rsP m t k).2) 51), (7, .row intE (rsP m t k).1 3 1), (10, .box (tmE (whR (rsP m t k).2 (fullT m (1 + (k : Int))))) 51)]⟩ (fun Q hQ => ?_) (fun Q hQ => ?_) ?_
    · refine Ex.mo ?_
      refine Ex.pu ?_
      exact Ex.imp Imp.ax hQ
    · refine Ex.mo ?_
      iterate 2 refine Ex.pu ?_
      exact Ex.imp Imp.ax hQ
    refine Ex.nil ?_
    refine X.seq ?_
    refine X.seq ?_
    refine X.region ?_
    iterate 2 refine Ex.pu ?_
    refine ExF.at 2 ?_
    refine ExF.pu ?_
    iterate 5 refine ExF.gi ?_
    refine ExF.done ?_
    refine Ex.pu ?_
    refine Ex.nil ?_
    refine X.cd rfl (fun hc4 => ?_) (fun hc4 => ?_)
    · have hV := rst_18 hc1 hc2 (rs_bad (k := k) (by omega) (by
        unfold rsOk
        rcases hc4 with h | h
        · rw [decide_eq_false h]; rfl
        · rw [decide_eq_false (show ¬ whQ (rsP m t k).2 (fullT m (1 + (k : Int))) ≤ 400 - ((rsP m t k).1.length : Int) by omega)]; simp))
      refine X.seq ?_
      refine X.region ?_
      iterate 2 refine Ex.pu ?_
      refine Ex.nil ?_
      refine X.ret ?_
      refine RetQ.imp (Imp.au (ts := [(4, intsA []), (5, iv 18)]) (hs := [])) ?_
      refine RetQ.ret (.many (by decide) (.cons (.tmp rfl (LeV.eq ?_)) (.cons (.tmp rfl (LeV.eq ?_)) .nil)))
      all_goals (first | exact congrArg intsA hV.2 | exact congrArg (AV.int .i64) hV.1)
    have hok : rsOk m t k = true := by
      unfold rsOk; rw [decide_eq_true hc4.1, decide_eq_true (show whQ (rsP m t k).2 (fullT m (1 + (k : Int))) ≤ 400 - ((rsP m t k).1.length : Int) by omega)]; rfl
    have hst := rsP_s m t k
    have hst1 := (congrArg Prod.fst hst).symm
    have hst2 : tmE (whR (rsP m t k).2 (fullT m (1 + (k : Int)))) = tmE (rsP m t (k + 1)).2 := congrArg tmE (congrArg Prod.snd hst).symm
    clear hst
    refine X.skip ?_
    refine X.seq ?_
    refine X.region ?_
    iterate 2 refine Ex.pu ?_
    refine Ex.bs intE [1 + (k : Int)] ?_
    refine Ex.imp (Imp.freeze (k := 45) rfl) ?_
    refine Ex.pu ?_
    refine Ex.ca (C_slices_Repeat_int_int (1 + (k : Int)) (whQ (rsP m t k).2 (fullT m (1 + (k : Int)))) hq (by omega)) ?_
    refine Ex.mo ?_
    refine Ex.pu ?_
    refine Ex.nil ?_
    refine X.region ?_
    refine Ex.pu ?_
    refine Ex.mo ?_
    refine Ex.nil ?_
    refine X.region ?_
    iterate 3 refine Ex.pu ?_
    refine Ex.nil ?_
    refine X.bk (k + 1) (hJ := by
      exact ⟨by omega, fun j hj => by
        rcases Nat.lt_or_ge j k with h | h
        · exact hk2 j h
        · rw [show j = k by omega]; exact hok⟩) (hI := Imp.ax)
  · have hk8 : k = 8 := by omega
    subst hk8
    have hg := rs_good hk2
    refine X.exit ?_
    refine X.seq ?_
    refine X.seq ?_
    refine X.region ?_
    iterate 3 refine Ex.pu ?_
    refine Ex.nil ?_
    refine X.cd rfl (fun hc5 => ?_) (fun hc5 => ?_)
    · have hV := rst_18 hc1 hc2 (by rw [hg]; exact decide_eq_false (by omega))
      refine X.seq ?_
      refine X.region ?_
      iterate 2 refine Ex.pu ?_
      refine Ex.nil ?_
      refine X.ret ?_
      refine RetQ.imp (Imp.au (ts := [(4, intsA []), (5, iv 18)]) (hs := [])) ?_
      refine RetQ.ret (.many (by decide) (.cons (.tmp rfl (LeV.eq ?_)) (.cons (.tmp rfl (LeV.eq ?_)) .nil)))
      all_goals (first | exact congrArg intsA hV.2 | exact congrArg (AV.int .i64) hV.1)
    have hV := rst_ok hc1 hc2 (by rw [hg]; exact decide_eq_true (by omega))
    refine X.skip ?_
    refine X.seq ?_
    refine X.region ?_
    iterate 3 refine Ex.pu ?_
    refine Ex.nil ?_
    refine X.ret ?_
    refine RetQ.imp (Imp.freeze (k := 7) rfl) ?_
    refine RetQ.ret (.many (by decide) (.cons (.tmp rfl (LeV.eq ?_)) (.cons (.tmp rfl (LeV.eq ?_)) .nil)))
    all_goals (first | exact congrArg intsA hV.2 | exact congrArg (AV.int .i64) hV.1)
end Go.Rse
