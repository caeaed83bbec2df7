/-
  Walks: the list of meanings with a number.
-/
import Derived.Test.YteecbmgddacioaaDot6
import Derived.Test.YteecbmgddacioaaRse27
namespace Go.Rse
open Go Go.Proofs
set_option linter.unusedVariables false
set_option linter.unusedSimpArgs false
attribute [local irreducible] Pur StepA StepM Ex X ExG Fn Imp LeV LeB FnO It YStep
theorem hz_int : ∀ (I : Im) (j : Nat) c, (intE 0)[j]? = some c → RV I noNames c (.int .i64 0) := fun I j c h => by
  cases j with
  | zero => simp [intE] at h; subst h; exact .int _ _
  | succ j => simp [intE] at h
theorem hz_bool : ∀ (I : Im) (j : Nat) c, (boolE false)[j]? = some c → RV I noNames c (.bool false) := fun I j c h => by
  cases j with
  | zero => simp [boolE] at h; subst h; exact .bool _
  | succ j => simp [boolE] at h
/-- What a backward range over lists hands out. -/
def backL (l : List (List Int)) : List (List AV) := (List.range l.length).map fun (j : Nat) => [iv ((l.length : Int) - 1 - (j : Int)), intsA (l.getD (l.length - 1 - j) [])]
theorem backL_get {l : List (List Int)} {k : Nat} (h : k < l.length) : (backL l)[k]? = some [iv ((l.length : Int) - 1 - k), intsA (l.getD (l.length - 1 - k) [])] := by
  simp [backL, h]
theorem backL_inv {l : List (List Int)} {j : Nat} {zs : List AV} (h : (backL l)[j]? = some zs) : j < l.length ∧ zs = [iv ((l.length : Int) - 1 - j), intsA (l.getD (l.length - 1 - j) [])] := by
  have hlt : j < l.length := by have := (List.getElem?_eq_some_iff.1 h).1; simpa [backL] using this
  rw [backL_get hlt] at h
  exact ⟨hlt, by simpa using h.symm⟩
theorem backL_len (l : List (List Int)) : (backL l).length = l.length := by simp [backL]
def ofN (L : List (List Int)) (n : Int) : Nat → Int
  | 0 => n
  | j + 1 => ofN L n j / ((L.getD (L.length - 1 - j) []).length : Int)
def ofV (L : List (List Int)) (n : Int) (j : Nat) : Int := (L.getD (L.length - 1 - j) []).getD (ofN L n j % ((L.getD (L.length - 1 - j) []).length : Int)).toNat 0
def ofRow (L : List (List Int)) (n : Int) : Nat → List Int
  | 0 => []
  | j + 1 => ofV L n j :: ofRow L n j
theorem ofRow_len (L : List (List Int)) (n : Int) : ∀ j, (ofRow L n j).length = j
  | 0 => rfl
  | j + 1 => by simp [ofRow, ofRow_len L n j]
theorem ofN_rng {L : List (List Int)} {n : Int} (h0 : 0 ≤ n) (h1 : n ≤ 64) (hL : ∀ x ∈ L, 1 ≤ x.length) : ∀ j, j ≤ L.length → 0 ≤ ofN L n j ∧ ofN L n j ≤ 64
  | 0, _ => ⟨h0, h1⟩
  | j + 1, hj => by
    obtain ⟨a, b⟩ := ofN_rng h0 h1 hL j (by omega)
    have hx : 1 ≤ (L.getD (L.length - 1 - j) []).length := by
      rw [List.getD_eq_getElem?_getD, List.getElem?_eq_getElem (by omega)]
      exact hL _ (List.getElem_mem _)
    simp only [ofN]
    generalize (L.getD (L.length - 1 - j) []).length = q at hx ⊢
    refine ⟨Int.ediv_nonneg a (by omega), Int.le_trans (Int.ediv_le_self _ a) b⟩
/-- The list of meanings with the number n. -/
def ofD (L : List (List Int)) (n : Int) : List Int := ofRow L n L.length
theorem of_set {L : List (List Int)} {n : Int} {j : Nat} (hj : j < L.length) : (List.replicate (L.length - j) 0 ++ ofRow L n j).set ((L.length : Int) - 1 - j).toNat (ofV L n j) = List.replicate (L.length - (j + 1)) 0 ++ ofRow L n (j + 1) := by
  have e : ((L.length : Int) - 1 - j).toNat = L.length - (j + 1) := by omega
  rw [e, show L.length - j = (L.length - (j + 1)) + 1 by omega, List.replicate_succ', List.append_assoc, List.set_append_right _ _ (by simp)]
  simp [ofRow]
def ofE (m : Mn) (l : List Sg) (n : Int) : Int := if cntE m l = 0 then (if n < 0 ∨ cntV m l ≤ n then 2 else 0) else cntE m l
def ofL (m : Mn) (l : List Sg) (n : Int) : List Int := if ofE m l n = 0 then ofD (mnsD m l) n else []
theorem cntE_ck {m : Mn} {l : List Sg} (h : cntE m l = 0) : ckD m l = 0 := by
  unfold cntE at h
  split at h
  · assumption
  · exact h
theorem cntF_pos : ∀ {L : List (List Int)} {n : Int}, (∀ x ∈ L, 1 ≤ x.length) → 1 ≤ n → n ≤ 64 → 1 ≤ cntF n L
  | [], n, _, h, _ => h
  | x :: r, n, hL, h, h64 => by
    have hx := hL x (by simp)
    have hp : 1 ≤ n * (x.length : Int) := by
      have : (1 : Int) * 1 ≤ n * (x.length : Int) := Int.mul_le_mul h (by omega) (by omega) (by omega)
      simpa using this
    unfold cntF
    split
    · omega
    · exact cntF_pos (fun y hy => hL y (by simp [hy])) hp (by omega)
theorem cntV_le {m : Mn} {l : List Sg} : cntV m l ≤ 64 := by
  unfold cntV; split
  · split <;> omega
  · omega
theorem mnsD_pos {m : Mn} {l : List Sg} (h : ckD m l = 0) {x : List Int} (hx : x ∈ mnsD m l) : 1 ≤ x.length := by
  obtain ⟨i, hi, rfl⟩ := List.mem_map.1 hx
  have hF : ckFrom m l 0 l = 0 := by unfold ckD at h; split at h
                                     · exact h
                                     · exact absurd h (by assumption)
  obtain ⟨j, s, p, h1, h2, h3⟩ := dotsK_mem hF l.length (Nat.le_refl _) i hi
  have hp : l[(i - 1).toNat]? = some p := by rw [show (i - 1).toNat = j by omega]; exact h3
  have := dotsK_ne hF l.length (Nat.le_refl _) i hi p hp
  unfold mnAt prevS
  rw [hp]; show 1 ≤ (mngs m p).length; omega
theorem C_slices_Backward_int_int_1L (l : List (List Int)) (hl : l.length ≤ 4000000000) : It Try.prog 159 [.ept (fun _ : Unit => [.sl intsE l]) () 0] (backL l) := by
  refine It.intro (ts := fun lY => [(0, .yv lY), (1, .ept (fun _ : Unit => [.sl intsE l]) () 0)]) (n := 19) (by kernel_rfl) Try.func159 rfl Try.ntmps159 rfl (fun _ => rfl) (by simp) (fun g w d ds Y lY hY => ?_)
  refine X.seq ?_
  refine X.region ?_
  first
    | refine Ex.pur (P_load_box rfl rfl rfl ty43) rfl ?_
    | refine Ex.pur (P_load_ept rfl rfl rfl ty43) rfl ?_
    | refine Ex.pur (P_load_row rfl rfl (by assumption) rfl rfl ty43) rfl ?_
  first
    | refine Ex.pur (P_len_sl rfl sl43) rfl ?_
    | refine Ex.pur (P_len_own rfl rfl sl43) rfl ?_
    | refine Ex.pur (P_len_nils rfl sl43) rfl ?_
  refine Ex.pur (P_sub rfl rfl (IntWalk.i64_in _ (by omega))) rfl ?_
  refine Ex.pur (P_assign rfl) rfl ?_
  refine Ex.nil ?_
  refine X.block ?_
  refine X.loop (ι := Nat) (fun (k : Nat) => ⟨[(0, .yv lY), (1, .ept (fun _ : Unit => [.sl intsE l]) () 0), (3, iv ((l.length : Int) - 1 - k))], [(1000000, .yld k true)]⟩) (fun (k : Nat) => k ≤ l.length) (fun (k : Nat) => l.length - k) 0 ?_ ?_ (fun k hk => ?_)
  · exact Imp.of (by (repeat' (first | exact True.intro | (refine And.intro ⟨_, rfl, ?_⟩ ?_; (first | exact LeV.refl _ | exact LeV.any _ | exact LeB.refl _ | (refine LeV.eq ?_; simp; done) | (refine LeV.eq ?_; congr 1; omega) | (refine LeV.eq ?_; dsimp only; congr 1; omega) | (refine LeV.eq (congrArg (AV.int _) ?_); omega) | exact LeV.nils _ | exact LeB.row (by assumption) | (refine LeB.eq ?_; congr 1; omega) | (refine LeB.eq ?_; congr 1; simp only [cond_true, cond_false]; omega)))))) (by (repeat' (first | exact True.intro | (refine And.intro ⟨_, rfl, ?_⟩ ?_; (first | exact LeV.refl _ | exact LeV.any _ | exact LeB.refl _ | (refine LeV.eq ?_; simp; done) | (refine LeV.eq ?_; congr 1; omega) | (refine LeV.eq ?_; dsimp only; congr 1; omega) | (refine LeV.eq (congrArg (AV.int _) ?_); omega) | exact LeV.nils _ | exact LeB.row (by assumption) | (refine LeB.eq ?_; congr 1; omega) | (refine LeB.eq ?_; congr 1; simp only [cond_true, cond_false]; omega))))))
  · first | trivial | omega | (refine ⟨?_, ?_⟩ <;> omega)
  refine X.seq ?_
  refine X.seq ?_
  refine X.region ?_
  refine Ex.pur (P_move rfl) rfl ?_
  refine Ex.pur (P_geq rfl rfl) rfl ?_
  refine Ex.nil ?_
  refine X.cond rfl (fun hc1 => ?_) (fun hc1 => ?_)
  · try simp only [decide_eq_true_eq, decide_eq_false_iff_not, Bool.not_eq_true', Bool.not_eq_false', Bool.and_eq_true, Bool.or_eq_true, Bool.and_eq_false_iff, Bool.or_eq_false_iff, Int.not_lt, Int.not_le, Decidable.not_not] at hc1
    have hlt : k < l.length := by omega
    have hu : l[((l.length : Int) - 1 - k).toNat]? = some (l.getD (l.length - 1 - k) []) := by
      rw [show ((l.length : Int) - 1 - k).toNat = l.length - 1 - k by omega, List.getD_eq_getElem?_getD, List.getElem?_eq_getElem (by omega)]; rfl
    refine X.skip ?_
    refine X.seq ?_
    refine X.block ?_
    refine X.seq ?_
    refine X.region ?_
    refine Ex.pur (P_move rfl) rfl ?_
    refine Ex.pur (P_move rfl) rfl ?_
    first
      | refine Ex.pur (P_load_box rfl rfl rfl ty43) rfl ?_
      | refine Ex.pur (P_load_ept rfl rfl rfl ty43) rfl ?_
      | refine Ex.pur (P_load_row rfl rfl (by assumption) rfl rfl ty43) rfl ?_
    refine Ex.pur (P_move rfl) rfl ?_
    first
      | refine Ex.pur (P_index_sl rfl rfl sl43 ty29 (fun _ => rfl) (by omega) (by assumption)) rfl ?_
      | refine Ex.pur (P_index_own rfl rfl rfl sl43 ty29 (by omega) (by omega)) rfl ?_
    first
      | refine Ex.pur (P_load_box rfl rfl rfl ty29) rfl ?_
      | refine Ex.pur (P_load_ept rfl rfl rfl ty29) rfl ?_
      | refine Ex.pur (P_load_row rfl rfl (by assumption) rfl rfl ty29) rfl ?_
    refine Ex.yield hY rfl rfl rfl (LeL.refl _) rfl rfl (backL_get hlt) rfl (fun b => ?_)
    refine Ex.pur (P_not rfl) rfl ?_
    refine Ex.nil ?_
    refine X.cond rfl (fun hc2 => ?_) (fun hc2 => ?_)
    · try simp only [decide_eq_true_eq, decide_eq_false_iff_not, Bool.not_eq_true', Bool.not_eq_false', Bool.and_eq_true, Bool.or_eq_true, Bool.and_eq_false_iff, Bool.or_eq_false_iff, Int.not_lt, Int.not_le, Decidable.not_not] at hc2
      refine X.ret ?_
      refine ⟨.inr rfl, _, b, rfl, fun hb => by simp_all⟩
    try simp only [decide_eq_true_eq, decide_eq_false_iff_not, Bool.not_eq_true', Bool.not_eq_false', Bool.and_eq_true, Bool.or_eq_true, Bool.and_eq_false_iff, Bool.or_eq_false_iff, Int.not_lt, Int.not_le, Decidable.not_not] at hc2
    subst hc2
    refine X.skip ?_
    refine X.region ?_
    refine Ex.pur (P_move rfl) rfl ?_
    refine Ex.pur (P_sub rfl rfl (IntWalk.i64_in _ (by omega))) rfl ?_
    refine Ex.pur (P_assign rfl) rfl ?_
    refine Ex.nil ?_
    refine ⟨k + 1, Imp.of (by (repeat' (first | exact True.intro | (refine And.intro ⟨_, rfl, ?_⟩ ?_; (first | exact LeV.refl _ | exact LeV.any _ | exact LeB.refl _ | (refine LeV.eq ?_; simp; done) | (refine LeV.eq ?_; congr 1; omega) | (refine LeV.eq ?_; dsimp only; congr 1; omega) | (refine LeV.eq (congrArg (AV.int _) ?_); omega) | exact LeV.nils _ | exact LeB.row (by assumption) | (refine LeB.eq ?_; congr 1; omega) | (refine LeB.eq ?_; congr 1; simp only [cond_true, cond_false]; omega)))))) (by (repeat' (first | exact True.intro | (refine And.intro ⟨_, rfl, ?_⟩ ?_; (first | exact LeV.refl _ | exact LeV.any _ | exact LeB.refl _ | (refine LeV.eq ?_; simp; done) | (refine LeV.eq ?_; congr 1; omega) | (refine LeV.eq ?_; dsimp only; congr 1; omega) | (refine LeV.eq (congrArg (AV.int _) ?_); omega) | exact LeV.nils _ | exact LeB.row (by assumption) | (refine LeB.eq ?_; congr 1; omega) | (refine LeB.eq ?_; congr 1; simp only [cond_true, cond_false]; omega)))))), ?_, ?_⟩
    · omega
    · omega
  · try simp only [decide_eq_true_eq, decide_eq_false_iff_not, Bool.not_eq_true', Bool.not_eq_false', Bool.and_eq_true, Bool.or_eq_true, Bool.and_eq_false_iff, Bool.or_eq_false_iff, Int.not_lt, Int.not_le, Decidable.not_not] at hc1
    refine X.exit ?_
    refine ⟨.inl rfl, k, true, rfl, fun _ => by rw [backL_len]; omega⟩
theorem C_slices_Backward_int_intL (l : List (List Int)) : Fn Try.prog 125 [listsA l] (.fn 159 [.ept (fun _ : Unit => [.sl intsE l]) () 0]) := by
  refine Fn.intro (ts := [(0, listsA l)]) (rv := [.tmp 2]) (n := 4) (by kernel_rfl) Try.func125 rfl Try.ntmps125 rfl rfl rfl (by simp) (fun g w d => ?_)
  refine X.seq ?_
  refine X.region ?_
  refine Ex.stepA (A_box (k := 1) rfl rfl rfl) rfl rfl ?_
  refine Ex.pur (P_assign rfl) rfl ?_
  refine Ex.nil ?_
  refine X.seq ?_
  refine X.region ?_
  refine Ex.pur (P_makeFunc rfl) rfl ?_
  refine Ex.pur (P_assign rfl) rfl ?_
  refine Ex.nil ?_
  refine X.ret ?_
  refine RetQ.imp (Imp.freezeBox (k := 1) rfl rfl) ?_
  refine RetQ.ret (.one (.tmp rfl (LeV.eq ?_)))
  all_goals (first | rfl | (simp_all; done))
theorem of_row0 (L : List (List Int)) (n : Int) : List.replicate L.length 0 = List.replicate (L.length - 0) 0 ++ ofRow L n 0 := by simp [ofRow]
theorem of_rowN (L : List (List Int)) (n : Int) : List.replicate (L.length - L.length) 0 ++ ofRow L n L.length = ofD L n := by simp [ofD]
attribute [local irreducible] mnsD ofRow ofV ofL ofE ofD cntE cntV ckD
set_option maxHeartbeats 1000000 in
theorem C_dot_Of (m : Mn) (z : List Sg) (hl : z.length ≤ 60) (n : Int) : Fn Try.prog 44 [mnA m, sgsA z, iv n] (.tup [intsA (ofL m z n), iv (ofE m z n)]) := by
  refine Fn.intro (ts := [(0, mnA m), (1, sgsA z), (2, iv n)]) (rv := [.tmp 6, .tmp 7]) (n := 59) (by kernel_rfl) Try.func44 rfl Try.ntmps44 rfl rfl rfl (by simp) (fun g w d => ?_)
  refine X.seq ?_
  refine X.region ?_
  refine Ex.stepA (A_box_agg (k := 3) rfl rfl) rfl rfl ?_
  refine Ex.stepA (A_box (k := 5) rfl rfl rfl) rfl rfl ?_
  refine Ex.pur (P_assign rfl) rfl ?_
  refine Ex.pur (P_assign rfl) rfl ?_
  refine Ex.nil ?_
  refine X.seq ?_
  refine X.region ?_
  first
    | refine Ex.pur (P_load_box_all rfl rfl rfl rfl ty23) rfl ?_
    | refine Ex.pur (P_load_ept_all rfl rfl rfl ty23) rfl ?_
    | refine Ex.pur (P_load_ept_part rfl rfl rfl rfl ty23) rfl ?_
    | refine Ex.pur (P_load_box_part rfl rfl rfl rfl ty23) rfl ?_
  refine Ex.pur (P_move rfl) rfl ?_
  refine Ex.call rfl rfl rfl (C_dot_Count m z hl) rfl ?_
  refine Ex.pur (P_move rfl) rfl ?_
  refine Ex.pur (P_extract rfl rfl) rfl ?_
  refine Ex.pur (P_extract rfl rfl) rfl ?_
  refine Ex.pur (P_assign rfl) rfl ?_
  refine Ex.pur (P_assign rfl) rfl ?_
  refine Ex.nil ?_
  refine X.seq ?_
  refine X.seq ?_
  refine X.region ?_
  refine Ex.pur (P_move rfl) rfl ?_
  refine Ex.pur (P_neq rfl rfl) rfl ?_
  refine Ex.nil ?_
  refine X.cond rfl (fun hc1 => ?_) (fun hc1 => ?_)
  · try simp only [decide_eq_true_eq, decide_eq_false_iff_not, Bool.not_eq_true', Bool.not_eq_false', Bool.and_eq_true, Bool.or_eq_true, Bool.and_eq_false_iff, Bool.or_eq_false_iff, Int.not_lt, Int.not_le, Decidable.not_not] at hc1
    have hE : ofE m z n = cntE m z := by unfold ofE; rw [if_neg hc1]
    have hL : ofL m z n = [] := by unfold ofL; rw [if_neg (by rw [hE]; exact hc1)]
    refine X.seq ?_
    refine X.region ?_
    refine Ex.pur (P_move rfl) rfl ?_
    refine Ex.pur (P_assign rfl) rfl ?_
    refine Ex.pur (P_assign rfl) rfl ?_
    refine Ex.nil ?_
    refine X.ret ?_
    refine RetQ.imp (Imp.of (ts := [(6, intsA []), (7, iv (cntE m z))]) (hs := []) (by (repeat' (first | exact True.intro | (refine And.intro ⟨_, rfl, ?_⟩ ?_; (first | exact LeV.refl _ | exact LeV.any _ | exact LeB.refl _ | (refine LeV.eq ?_; simp; done) | (refine LeV.eq ?_; congr 1; omega) | (refine LeV.eq ?_; dsimp only; congr 1; omega) | (refine LeV.eq (congrArg (AV.int _) ?_); omega) | exact LeV.nils _ | exact LeB.row (by assumption) | (refine LeB.eq ?_; congr 1; omega) | (refine LeB.eq ?_; congr 1; simp only [cond_true, cond_false]; omega)))))) trivial) ?_
    refine RetQ.ret (.many (by decide) (.cons (.tmp rfl (LeV.eq ?_)) (.cons (.tmp rfl (LeV.eq ?_)) .nil)))
    all_goals (first | (simp [*]; done) | (rw [hE]; rfl) | (rw [hL, ← hrowN]; simp only [hbl]; rfl))
  try simp only [decide_eq_true_eq, decide_eq_false_iff_not, Bool.not_eq_true', Bool.not_eq_false', Bool.and_eq_true, Bool.or_eq_true, Bool.and_eq_false_iff, Bool.or_eq_false_iff, Int.not_lt, Int.not_le, Decidable.not_not] at hc1
  have hck := cntE_ck hc1
  have hM := C_dot_Meanings m z hl
  rw [if_pos hck] at hM
  have hml := mnsD_len m z
  have hmp : ∀ x ∈ mnsD m z, 1 ≤ x.length := fun x hx => mnsD_pos hck hx
  have hcv := cntV_le (m := m) (l := z)
  refine X.skip ?_
  refine X.seq ?_
  refine X.seq ?_
  refine X.region ?_
  first
    | refine Ex.pur (P_load_box rfl rfl rfl ty3) rfl ?_
    | refine Ex.pur (P_load_ept rfl rfl rfl ty3) rfl ?_
    | refine Ex.pur (P_load_row rfl rfl (by assumption) rfl rfl ty3) rfl ?_
  refine Ex.pur (P_lss rfl rfl) rfl ?_
  refine Ex.pur (P_move rfl) rfl ?_
  refine Ex.gstart (t := 26) false rfl ?_
  first
    | refine ExG.step rfl rfl rfl (fun hg => Pur.stepA (P_load_box rfl rfl rfl ty3)) rfl ?_
    | refine ExG.step rfl rfl rfl (fun hg => Pur.stepA (P_load_ept rfl rfl rfl ty3)) rfl ?_
    | refine ExG.step rfl rfl rfl (fun hg => Pur.stepA (P_load_row rfl rfl (by assumption) rfl rfl ty3)) rfl ?_
  refine ExG.step rfl rfl rfl (fun hg => Pur.stepA (P_move rfl)) rfl ?_
  refine ExG.step rfl rfl rfl (fun hg => Pur.stepA (P_geq rfl rfl)) rfl ?_
  refine ExG.done ?_
  first
    | refine Ex.pur (P_and rfl rfl) rfl ?_
    | refine Ex.pur (P_or rfl rfl) rfl ?_
    | (refine Ex.pur (P_pick_true rfl ?_ rfl) rfl ?_; iterate 1 (· first | assumption | rfl | omega | (simp; done) | (simp; omega) | (simp_all; done)))
    | (refine Ex.pur (P_pick_false rfl ?_ rfl) rfl ?_; iterate 1 (· first | assumption | rfl | omega | (simp; done) | (simp; omega) | (simp_all; done)))
  refine Ex.nil ?_
  refine X.cond rfl (fun hc2 => ?_) (fun hc2 => ?_)
  · try simp only [decide_eq_true_eq, decide_eq_false_iff_not, Bool.not_eq_true', Bool.not_eq_false', Bool.and_eq_true, Bool.or_eq_true, Bool.and_eq_false_iff, Bool.or_eq_false_iff, Int.not_lt, Int.not_le, Decidable.not_not] at hc2
    have hE : ofE m z n = 2 := by unfold ofE; rw [if_pos hc1, if_pos (by omega)]
    have hL : ofL m z n = [] := by unfold ofL; rw [if_neg (by omega)]
    refine X.seq ?_
    refine X.region ?_
    refine Ex.pur (P_assign rfl) rfl ?_
    refine Ex.pur (P_assign rfl) rfl ?_
    refine Ex.nil ?_
    refine X.ret ?_
    refine RetQ.imp (Imp.of (ts := [(6, intsA []), (7, iv 2)]) (hs := []) (by (repeat' (first | exact True.intro | (refine And.intro ⟨_, rfl, ?_⟩ ?_; (first | exact LeV.refl _ | exact LeV.any _ | exact LeB.refl _ | (refine LeV.eq ?_; simp; done) | (refine LeV.eq ?_; congr 1; omega) | (refine LeV.eq ?_; dsimp only; congr 1; omega) | (refine LeV.eq (congrArg (AV.int _) ?_); omega) | exact LeV.nils _ | exact LeB.row (by assumption) | (refine LeB.eq ?_; congr 1; omega) | (refine LeB.eq ?_; congr 1; simp only [cond_true, cond_false]; omega)))))) trivial) ?_
    refine RetQ.ret (.many (by decide) (.cons (.tmp rfl (LeV.eq ?_)) (.cons (.tmp rfl (LeV.eq ?_)) .nil)))
    all_goals (first | (simp [*]; done) | (rw [hE]; rfl) | (rw [hL, ← hrowN]; simp only [hbl]; rfl))
  try simp only [decide_eq_true_eq, decide_eq_false_iff_not, Bool.not_eq_true', Bool.not_eq_false', Bool.and_eq_true, Bool.or_eq_true, Bool.and_eq_false_iff, Bool.or_eq_false_iff, Int.not_lt, Int.not_le, Decidable.not_not] at hc2
  have hE : ofE m z n = 0 := by unfold ofE; rw [if_pos hc1, if_neg (by omega)]
  have hL : ofL m z n = ofD (mnsD m z) n := by unfold ofL; rw [if_pos hE]
  have hn0 : 0 ≤ n := by omega
  have hn1 : n ≤ 64 := by omega
  refine X.skip ?_
  refine X.seq ?_
  refine X.region ?_
  first
    | refine Ex.pur (P_load_box_all rfl rfl rfl rfl ty23) rfl ?_
    | refine Ex.pur (P_load_ept_all rfl rfl rfl ty23) rfl ?_
    | refine Ex.pur (P_load_ept_part rfl rfl rfl rfl ty23) rfl ?_
    | refine Ex.pur (P_load_box_part rfl rfl rfl rfl ty23) rfl ?_
  refine Ex.pur (P_move rfl) rfl ?_
  refine Ex.call rfl rfl rfl hM rfl ?_
  refine Ex.pur (P_move rfl) rfl ?_
  refine Ex.pur (P_extract rfl rfl) rfl ?_
  refine Ex.pur (P_extract rfl rfl) rfl ?_
  refine Ex.pur (P_assign rfl) rfl ?_
  refine Ex.pur (P_assign rfl) rfl ?_
  refine Ex.nil ?_
  refine X.seq ?_
  refine X.region ?_
  refine Ex.pur (P_move rfl) rfl ?_
  first
    | refine Ex.pur (P_len_sl rfl sl43) rfl ?_
    | refine Ex.pur (P_len_own rfl rfl sl43) rfl ?_
    | refine Ex.pur (P_len_nils rfl sl43) rfl ?_
  refine Ex.stepA (A_makeSlice (k := 39) (enc := intE) 0 sl29 ti3 rfl (by decide) rfl rfl rfl rfl (by omega) (fun _ => rfl) hz_int) rfl rfl ?_
  refine Ex.stepA (A_alloc (k := 12) zc29) rfl rfl ?_
  first
    | refine Ex.stepM (M_store rfl rfl rfl rfl ty29 (ltB rfl)) ?_
    | (refine Ex.stepM (M_store_row _ rfl rfl (fun _ => rfl) (by decide) ?_ rfl rfl rfl rfl rfl ty29) ?_; iterate 1 (· first | assumption | rfl | omega | (simp; done) | (simp; omega) | (simp_all; done)))
  refine Ex.nil ?_
  refine X.seq ?_
  refine X.seq ?_
  refine X.region ?_
  refine Ex.pur (P_move rfl) rfl ?_
  refine Ex.call rfl rfl rfl (C_slices_Backward_int_intL _) rfl ?_
  refine Ex.nil ?_
  refine X.block ?_
  have hrow0 := of_row0 (mnsD m z) n
  have hrowN := of_rowN (mnsD m z) n
  have hbl := backL_len (mnsD m z)
  refine X.range (sl := [5, 12]) (fun j => ([.ptr 5 0 0 0, .ptr 12 0 0 0], [(5, .box [iv (ofN (mnsD m z) n j)] 3), (12, .box [.own 39] 29), (39, .row intE (List.replicate ((mnsD m z).length - j) 0 ++ ofRow (mnsD m z) n j) 3 1)])) (fun j => True) 900001 900002 rfl rfl (by decide) (fun j zs hj => by obtain ⟨_, rfl⟩ := backL_inv hj; rfl) (C_slices_Backward_int_int_1L (mnsD m z) (by omega)) trivial rfl rfl (by decide) (Nat.zero_le _) (by simp) (fun j zs hj => by obtain ⟨_, rfl⟩ := backL_inv hj; rfl) (fun _ => rfl) rfl rfl (fun l o us => Imp.of (by (repeat' (first | exact True.intro | (refine And.intro ⟨_, rfl, ?_⟩ ?_; (first | exact LeV.refl _ | exact LeV.any _ | exact LeB.refl _ | (refine LeV.eq ?_; simp; done) | (refine LeV.eq ?_; congr 1; omega) | (refine LeV.eq ?_; dsimp only; congr 1; omega) | (refine LeV.eq (congrArg (AV.int _) ?_); omega) | exact LeV.nils _ | exact LeB.row (by assumption) | (refine LeB.eq ?_; congr 1; omega) | (refine LeB.eq ?_; congr 1; simp only [cond_true, cond_false]; omega)))))) (by (repeat' (first | exact True.intro | (refine And.intro ⟨_, rfl, ?_⟩ ?_; (first | exact LeV.refl _ | exact LeV.any _ | exact LeB.refl _ | (refine LeV.eq ?_; simp; done) | (refine LeV.eq ?_; congr 1; omega) | (refine LeV.eq ?_; dsimp only; congr 1; omega) | (refine LeV.eq (congrArg (AV.int _) ?_); omega) | exact LeV.nils _ | exact LeB.row (by assumption) | (refine LeB.eq ?_; congr 1; omega) | (refine LeB.eq ?_; congr 1; simp only [cond_true, cond_false]; omega))))))) (trivial) (fun j zs hj hJ l ready busy rb vs g w hb hyB => ?_) (fun hJ => ?_)
  · obtain ⟨hj4, rfl⟩ := backL_inv hj
    obtain ⟨hN0, hN1⟩ := ofN_rng hn0 hn1 hmp j (by omega)
    have hxm : (mnsD m z).getD ((mnsD m z).length - 1 - j) [] ∈ mnsD m z := by
      rw [List.getD_eq_getElem?_getD, List.getElem?_eq_getElem (by omega)]; exact List.getElem_mem _
    have hx1 := hmp _ hxm
    have hx2 := mnsD_len2 hxm
    have hr0 : 0 ≤ ofN (mnsD m z) n j % (((mnsD m z).getD ((mnsD m z).length - 1 - j) []).length : Int) := Int.emod_nonneg _ (by omega)
    have hr1 : ofN (mnsD m z) n j % (((mnsD m z).getD ((mnsD m z).length - 1 - j) []).length : Int) < (((mnsD m z).getD ((mnsD m z).length - 1 - j) []).length : Int) := Int.emod_lt_of_pos _ (by omega)
    have hv : ((mnsD m z).getD ((mnsD m z).length - 1 - j) [])[(ofN (mnsD m z) n j % (((mnsD m z).getD ((mnsD m z).length - 1 - j) []).length : Int)).toNat]? = some (ofV (mnsD m z) n j) := by
      unfold ofV; rw [List.getD_eq_getElem?_getD (l := (mnsD m z).getD ((mnsD m z).length - 1 - j) []), List.getElem?_eq_getElem (by omega)]; rfl
    have hrl : (List.replicate ((mnsD m z).length - j) 0 ++ ofRow (mnsD m z) n j).length = (mnsD m z).length := by simp [ofRow_len]; omega
    have hset := of_set (n := n) hj4
    refine X.seq ?_
    refine X.region ?_
    refine Ex.pur (P_assign rfl) rfl ?_
    refine Ex.nil ?_
    refine X.region ?_
    refine Ex.pur (P_assign rfl) rfl ?_
    refine Ex.nil ?_
    refine ⟨rfl, rfl, ?_⟩
    refine X.block ?_
    refine X.seq ?_
    refine X.draw [44, 45, 46, 47, 48, 49, 50, 51, 52] mo rfl ?_
    first
      | refine Chain.step [] rfl rfl rfl (Pur.stepA (P_load_box rfl rfl rfl ty29)) rfl ?_
      | refine Chain.step [] rfl rfl rfl (Pur.stepA (P_load_ept rfl rfl rfl ty29)) rfl ?_
      | refine Chain.step [] rfl rfl rfl (Pur.stepA (P_load_row rfl rfl (by assumption) rfl rfl ty29)) rfl ?_
    refine Chain.step [] rfl rfl rfl (Pur.stepA (P_move rfl)) rfl ?_
    refine Chain.step [] rfl rfl rfl (Pur.stepA (P_move rfl)) rfl ?_
    first
      | refine Chain.step [] rfl rfl rfl (Pur.stepA (P_load_box rfl rfl rfl ty3)) rfl ?_
      | refine Chain.step [] rfl rfl rfl (Pur.stepA (P_load_ept rfl rfl rfl ty3)) rfl ?_
      | refine Chain.step [] rfl rfl rfl (Pur.stepA (P_load_row rfl rfl (by assumption) rfl rfl ty3)) rfl ?_
    refine Chain.step [] rfl rfl rfl (Pur.stepA (P_move rfl)) rfl ?_
    first
      | refine Chain.step [4] rfl rfl rfl (Pur.stepA (P_len_sl rfl sl29)) rfl ?_
      | refine Chain.step [4] rfl rfl rfl (Pur.stepA (P_len_own rfl rfl sl29)) rfl ?_
      | refine Chain.step [4] rfl rfl rfl (Pur.stepA (P_len_nils rfl sl29)) rfl ?_
    first
      | refine Chain.step [4, 5, 3] rfl rfl rfl (Pur.stepA (P_rem' rfl rfl (by omega) (by omega))) rfl ?_
      | refine Chain.step [4, 5, 3] rfl rfl rfl (Pur.stepA (P_rem rfl rfl (by omega))) rfl ?_
    first
      | refine Chain.step [4, 5, 3, 6, 2] rfl rfl rfl (Pur.stepA (P_index_sl rfl rfl sl29 ty3 (fun _ => rfl) (by omega) (by assumption))) rfl ?_
      | refine Chain.step [4, 5, 3, 6, 2] rfl rfl rfl (Pur.stepA (P_index_own rfl rfl rfl sl29 ty3 (by omega) (by omega))) rfl ?_
    first
      | refine Chain.step [4, 5, 3, 6, 2, 7] rfl rfl rfl (Pur.stepA (P_load_box rfl rfl rfl ty3)) rfl ?_
      | refine Chain.step [4, 5, 3, 6, 2, 7] rfl rfl rfl (Pur.stepA (P_load_ept rfl rfl rfl ty3)) rfl ?_
      | refine Chain.step [4, 5, 3, 6, 2, 7] rfl rfl rfl (Pur.stepA (P_load_row rfl rfl (by assumption) rfl rfl ty3)) rfl ?_
    refine Chain.tail [8, 7, 6, 5, 4, 3, 2, 1, 0] rfl rfl ?_
    first
      | refine Ex.pur (P_index_sl rfl rfl sl29 ty3 (fun _ => rfl) (by omega) (by assumption)) rfl ?_
      | refine Ex.pur (P_index_own rfl rfl rfl sl29 ty3 (by omega) (by omega)) rfl ?_
    first
      | refine Ex.stepM (M_store rfl rfl rfl rfl ty3 (ltB rfl)) ?_
      | (refine Ex.stepM (M_store_row _ rfl rfl (fun _ => rfl) (by decide) ?_ rfl rfl rfl rfl rfl ty3) ?_; iterate 1 (· first | assumption | rfl | omega | (simp; done) | (simp; omega) | (simp_all; done)))
    refine Ex.nil ?_
    refine X.region ?_
    first
      | refine Ex.pur (P_load_box rfl rfl rfl ty3) rfl ?_
      | refine Ex.pur (P_load_ept rfl rfl rfl ty3) rfl ?_
      | refine Ex.pur (P_load_row rfl rfl (by assumption) rfl rfl ty3) rfl ?_
    refine Ex.pur (P_move rfl) rfl ?_
    first
      | refine Ex.pur (P_len_sl rfl sl29) rfl ?_
      | refine Ex.pur (P_len_own rfl rfl sl29) rfl ?_
      | refine Ex.pur (P_len_nils rfl sl29) rfl ?_
    first
      | refine Ex.pur (P_quo' rfl rfl (by omega) (by omega) (by omega)) rfl ?_
      | refine Ex.pur (P_quo rfl rfl (by omega) (IntWalk.i64_in _ (by omega))) rfl ?_
    first
      | refine Ex.stepM (M_store rfl rfl rfl rfl ty3 (ltB rfl)) ?_
      | (refine Ex.stepM (M_store_row _ rfl rfl (fun _ => rfl) (by decide) ?_ rfl rfl rfl rfl rfl ty3) ?_; iterate 1 (· first | assumption | rfl | omega | (simp; done) | (simp; omega) | (simp_all; done)))
    refine Ex.nil ?_
    refine ⟨[.ptr 5 0 0 0, .ptr 12 0 0 0], [(5, .box [iv (ofN (mnsD m z) n (j + 1))] 3), (12, .box [.own 39] 29), (39, .row intE (List.replicate ((mnsD m z).length - (j + 1)) 0 ++ ofRow (mnsD m z) n (j + 1)) 3 1)], Imp.of (by (repeat' (first | exact True.intro | (refine And.intro ⟨_, rfl, ?_⟩ ?_; (first | exact LeV.refl _ | exact LeV.any _ | exact LeB.refl _ | (refine LeV.eq ?_; simp; done) | (refine LeV.eq ?_; congr 1; omega) | (refine LeV.eq ?_; dsimp only; congr 1; omega) | (refine LeV.eq (congrArg (AV.int _) ?_); omega) | exact LeV.nils _ | exact LeB.row (by assumption) | (refine LeB.eq ?_; congr 1; omega) | (refine LeB.eq ?_; congr 1; simp only [cond_true, cond_false]; omega)))))) (by (repeat' (first | exact True.intro | (refine And.intro ⟨_, rfl, ?_⟩ ?_; (first | exact LeV.refl _ | exact LeV.any _ | exact LeB.refl _ | (refine LeV.eq ?_; simp; done) | (refine LeV.eq ?_; congr 1; omega) | (refine LeV.eq ?_; dsimp only; congr 1; omega) | (refine LeV.eq (congrArg (AV.int _) ?_); omega) | exact LeV.nils _ | exact LeB.row (by assumption) | (refine LeB.eq ?_; congr 1; omega) | (refine LeB.eq ?_; congr 1; simp only [cond_true, cond_false]; omega)))))), rfl, trivial⟩
  refine X.seq ?_
  refine X.region ?_
  first
    | refine Ex.pur (P_load_box rfl rfl rfl ty29) rfl ?_
    | refine Ex.pur (P_load_ept rfl rfl rfl ty29) rfl ?_
    | refine Ex.pur (P_load_row rfl rfl (by assumption) rfl rfl ty29) rfl ?_
  refine Ex.pur (P_assign rfl) rfl ?_
  refine Ex.pur (P_assign rfl) rfl ?_
  refine Ex.nil ?_
  refine X.ret ?_
  refine RetQ.imp (Imp.freeze (k := 39) rfl) ?_
  refine RetQ.ret (.many (by decide) (.cons (.tmp rfl (LeV.eq ?_)) (.cons (.tmp rfl (LeV.eq ?_)) .nil)))
  all_goals (first | (simp [*]; done) | (rw [hE]; rfl) | (rw [hL, ← hrowN]; simp only [hbl]; rfl))
end Go.Rse
