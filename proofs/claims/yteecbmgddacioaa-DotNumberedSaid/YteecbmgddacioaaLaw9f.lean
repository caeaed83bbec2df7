/-
  Walks: the statement that meanings depend on the note alone.
-/
import Derived.Test.YteecbmgddacioaaLaw9e
namespace Go.Rse
open Go Go.Proofs
set_option linter.unusedVariables false
set_option linter.unusedSimpArgs false
attribute [local irreducible] Pur StepA StepM Ex X ExG Fn Imp LeV LeB FnO It YStep
/-- The mensuration made of a number. -/
def mMade (n : Int) : Mn := ⟨2 + n % 16 / 8, 2 + n % 16 / 4 % 2, 2 + n % 16 / 2 % 2, 2 + n % 16 % 2⟩
theorem mMade_ck (n : Int) : ckM (mMade n) = 0 := by
  unfold ckM
  rw [if_pos]
  unfold Mn.Ok two3 mMade
  refine ⟨?_, ?_, ?_, ?_⟩ <;> dsimp only <;> omega
theorem dotsK_at {l : List Sg} {k : Nat} {s : Sg} (hs : l[k]? = some s) (h3 : s.Kind = 3) : ∀ n, k < n → (dotsK l n)[(dotsK l k).length]? = some (k : Int)
  | 0, h => by omega
  | n + 1, h => by
    rcases Nat.lt_or_ge k n with h1 | h1
    · have ih := dotsK_at hs h3 n h1
      have hl := (List.getElem?_eq_some_iff.1 ih).1
      rw [dotsK, List.getElem?_append, if_pos hl]; exact ih
    · have : k = n := by omega
      subst this
      rw [dotsK, List.getElem?_append, if_neg (by omega)]
      simp [hs, h3]
theorem mnsD_at {m : Mn} {l : List Sg} {k : Nat} {s p : Sg} (hs : l[k]? = some s) (h3 : s.Kind = 3) (hp : prevS l k = some p) : (mnsD m l)[(dotsK l k).length]? = some (mngs m p) := by
  have h := dotsK_at hs h3 l.length (List.getElem?_eq_some_iff.1 hs).1
  rw [mnsD, List.getElem?_map, h]
  simp [mnAt, hp]
theorem two_gd {p : Sg} (h : p.Kind = 1) (h1 : 2 ≤ p.Value) (h2 : p.Value ≤ 5) : Gd [p, sgDot] := fun i s hs => by
  cases i with
  | zero => injection (show some _ = some s from hs) with hs; subst hs; exact .inl ⟨.inl h, h1, h2⟩
  | succ i =>
    cases i with
    | zero => injection (show some _ = some s from hs) with hs; subst hs; exact .inr ⟨rfl, 0, p, rfl, rfl, h⟩
    | succ i => simp at hs
theorem two_mns {m : Mn} {p : Sg} (h : p.Kind = 1) : mnsD m [p, sgDot] = [mngs m p] := by
  have hd : dotsK [p, sgDot] 2 = [1] := by
    simp only [dotsK, List.getElem?_cons_zero, List.getElem?_cons_succ]
    rw [if_neg (by omega)]; rfl
  show (dotsK [p, sgDot] 2).map (mnAt m [p, sgDot]) = _
  rw [hd]; rfl
theorem C_alone (m : Mn) (p : Sg) (hm : ckM m = 0) (h : p.Kind = 1) (h1 : 2 ≤ p.Value) (h2 : p.Value ≤ 5) : Fn Try.prog 32 [mnA m, sgsA [p, sgDot]] (.tup [listsA [mngs m p], iv 0]) := by
  have := C_dot_Meanings m [p, sgDot] (by simp)
  rw [gd_ck hm (two_gd h h1 h2), if_pos rfl, two_mns h] at this
  exact this
theorem gd_dot {m : Mn} {l : List Sg} (h : Gd l) {k : Nat} {s : Sg} (hs : l[k]? = some s) (h3 : s.Kind = 3) : ∃ p : Sg, 0 < k ∧ l[((k : Int) - 1).toNat]? = some p ∧ prevS l k = some p ∧ p.Kind = 1 ∧ 2 ≤ p.Value ∧ p.Value ≤ 5 := by
  rcases h k s hs with h1 | ⟨_, j, p, rfl, h4, h5⟩
  · omega
  · have e : (((j + 1 : Nat) : Int) - 1).toNat = j := by omega
    refine ⟨p, by omega, by rw [e]; exact h4, by unfold prevS; rw [e]; exact h4, h5, ?_⟩
    rcases h j p h4 with h6 | h6
    · exact h6.2
    · omega
theorem minim_mng (m : Mn) (hm : ckM m = 0) : mngs m (sgNote 5) = if m.aV 5 = 0 then [0] else [0, m.aV 5] := by
  rw [mngs_R (s := sgNote 5) hm (by decide) (by decide) (fun h => by have := h.1; simp [sgNote] at this)]
  have hp : m.p 5 = 2 := p_big (by decide)
  have e : (sgNote 5).Value = 5 := rfl
  unfold mngR
  rw [if_neg (by decide), if_neg (by decide), e]
  by_cases h : m.aV 5 = 0
  · rw [if_pos ⟨hp, h⟩, if_pos h]
  · rw [if_neg (fun q => h q.2), if_pos hp, if_neg h]
theorem C_lists_eq (a : List (List Int)) (h : a.length ≤ 4000000000) (h2 : ∀ x, x ∈ a → x.length ≤ 4000000000) : Fn Try.prog 34 [listsA a, listsA a] (.bool true) := by
  have := C_tactuskit_SameLists a a h h2; simpa using this
attribute [local irreducible] mnsD mdRun mMade
set_option maxHeartbeats 4000000 in
set_option maxRecDepth 100000 in
theorem C_tactuslaw09_DotLocal (n : Int) (l : List Int) (hn : -9223372036854775808 ≤ n ∧ n ≤ 9223372036854775807) (hr : ∀ x, x ∈ l → -9223372036854775808 ≤ x ∧ x ≤ 9223372036854775807) : Fn Try.prog 10 [iv n, intsA l] (.bool true) := by
  have hm : Fn Try.prog 22 [iv n] (mnA (mMade n)) := by unfold mMade; exact C_tactuskit_Mens n hn
  have hck := mMade_ck n
  generalize mMade n = m at hm hck
  have hg := mdRun_gd l
  have hlen := mdRun_len l
  have hM := C_dot_Meanings m (mdRun l) (by omega)
  rw [gd_ck hck hg, if_pos rfl] at hM
  have hml := mnsD_len m (mdRun l)
  have hmd : (mnsD m (mdRun l)).length = (dotsK (mdRun l) (mdRun l).length).length := by simp [mnsD]
  refine Fn.intro (ts := [(0, iv n), (1, intsA l)]) (rv := [.tmp 4]) (n := 118) (by kernel_rfl) Try.func10 rfl Try.ntmps10 rfl rfl rfl (by simp) (fun g w d => ?_)
  refine X.seq ?_
  refine X.region ?_
  refine Ex.pur (P_assign rfl) rfl ?_
  refine Ex.nil ?_
  refine X.seq ?_
  refine X.region ?_
  refine Ex.call rfl rfl rfl C_tactuslaw09_DotKnown rfl ?_
  refine Ex.pur (P_assign rfl) rfl ?_
  refine Ex.nil ?_
  refine X.seq ?_
  refine X.region ?_
  refine Ex.pur (P_move rfl) rfl ?_
  refine Ex.call rfl rfl rfl hm rfl ?_
  refine Ex.stepA (A_alloc (k := 6) zc23) rfl rfl ?_
  refine Ex.stepM (M_store_agg rfl rfl rfl rfl ty23 rfl (leB rfl)) ?_
  refine Ex.nil ?_
  refine X.seq ?_
  refine X.region ?_
  refine Ex.pur (P_move rfl) rfl ?_
  refine Ex.call rfl rfl rfl (C_tactuslaw09_Made l hr) rfl ?_
  refine Ex.pur (P_assign rfl) rfl ?_
  refine Ex.nil ?_
  refine X.seq ?_
  refine X.region ?_
  first
    | refine Ex.pur (P_load_box_all rfl rfl rfl rfl ty23) rfl ?_
    | refine Ex.pur (P_load_ept_all rfl rfl rfl ty23) rfl ?_
    | refine Ex.pur (P_load_ept_part rfl rfl rfl rfl ty23) rfl ?_
    | refine Ex.pur (P_load_box_part rfl rfl rfl rfl ty23) rfl ?_
  refine Ex.pur (P_move rfl) rfl ?_
  refine Ex.call rfl rfl rfl hM rfl ?_
  refine Ex.pur (P_move rfl) rfl ?_
  refine Ex.pur (P_extract rfl rfl) rfl ?_
  refine Ex.pur (P_extract rfl rfl) rfl ?_
  refine Ex.pur (P_assign rfl) rfl ?_
  refine Ex.pur (P_assign rfl) rfl ?_
  refine Ex.nil ?_
  refine X.seq ?_
  refine X.seq ?_
  refine X.region ?_
  refine Ex.pur (P_move rfl) rfl ?_
  refine Ex.pur (P_neq rfl rfl) rfl ?_
  refine Ex.nil ?_
  refine X.cond rfl (fun hc1 => ?_) (fun hc1 => ?_)
  · try simp only [decide_eq_true_eq, decide_eq_false_iff_not, Bool.not_eq_true', Bool.not_eq_false', Bool.and_eq_true, Bool.or_eq_true, Bool.and_eq_false_iff, Bool.or_eq_false_iff, Int.not_lt, Int.not_le, Decidable.not_not] at hc1
    simp at hc1
  try simp only [decide_eq_true_eq, decide_eq_false_iff_not, Bool.not_eq_true', Bool.not_eq_false', Bool.and_eq_true, Bool.or_eq_true, Bool.and_eq_false_iff, Bool.or_eq_false_iff, Int.not_lt, Int.not_le, Decidable.not_not] at hc1
  refine X.skip ?_
  refine X.seq ?_
  refine X.region ?_
  refine Ex.pur (P_assign rfl) rfl ?_
  refine Ex.nil ?_
  refine X.seq ?_
  refine X.seq ?_
  refine X.region ?_
  refine Ex.pur (P_assign rfl) rfl ?_
  refine Ex.nil ?_
  refine X.block ?_
  refine X.loop (ι := Nat) (fun (k : Nat) => ⟨[(5, .bool true), (6, .ptr 6 0 0 0), (7, sgsA (mdRun l)), (8, listsA (mnsD m (mdRun l))), (10, iv ((dotsK (mdRun l) k).length : Int)), (11, iv (k : Int))], [(6, .box (mnE m) 23)]⟩) (fun (k : Nat) => k ≤ (mdRun l).length) (fun (k : Nat) => (mdRun l).length - k) 0 ?_ ?_ (fun k hk => ?_)
  · exact Imp.of (by (repeat' (first | exact True.intro | (refine And.intro ⟨_, rfl, ?_⟩ ?_; (first | exact LeV.refl _ | exact LeV.any _ | exact LeB.refl _ | (refine LeV.eq ?_; simp; done) | (refine LeV.eq ?_; congr 1; omega) | (refine LeV.eq ?_; dsimp only; congr 1; omega) | (refine LeV.eq (congrArg (AV.int _) ?_); omega) | exact LeV.nils _ | exact LeB.row (by assumption) | (refine LeB.eq ?_; congr 1; omega) | (refine LeB.eq ?_; congr 1; simp only [cond_true, cond_false]; omega)))))) (by (repeat' (first | exact True.intro | (refine And.intro ⟨_, rfl, ?_⟩ ?_; (first | exact LeV.refl _ | exact LeV.any _ | exact LeB.refl _ | (refine LeV.eq ?_; simp; done) | (refine LeV.eq ?_; congr 1; omega) | (refine LeV.eq ?_; dsimp only; congr 1; omega) | (refine LeV.eq (congrArg (AV.int _) ?_); omega) | exact LeV.nils _ | exact LeB.row (by assumption) | (refine LeB.eq ?_; congr 1; omega) | (refine LeB.eq ?_; congr 1; simp only [cond_true, cond_false]; omega))))))
  · first | trivial | omega | (refine ⟨?_, ?_⟩ <;> omega)
  refine X.seq ?_
  refine X.seq ?_
  refine X.region ?_
  refine Ex.pur (P_move rfl) rfl ?_
  refine Ex.pur (P_move rfl) rfl ?_
  first
    | refine Ex.pur (P_len_sl rfl sl41) rfl ?_
    | refine Ex.pur (P_len_own rfl rfl sl41) rfl ?_
    | refine Ex.pur (P_len_nils rfl sl41) rfl ?_
  refine Ex.pur (P_lss rfl rfl) rfl ?_
  refine Ex.nil ?_
  refine X.cond rfl (fun hc2 => ?_) (fun hc2 => ?_)
  · try simp only [decide_eq_true_eq, decide_eq_false_iff_not, Bool.not_eq_true', Bool.not_eq_false', Bool.and_eq_true, Bool.or_eq_true, Bool.and_eq_false_iff, Bool.or_eq_false_iff, Int.not_lt, Int.not_le, Decidable.not_not] at hc2
    obtain ⟨s, hs⟩ : ∃ s, (mdRun l)[k]? = some s := ⟨_, List.getElem?_eq_getElem (by omega)⟩
    have hs2 : (mdRun l)[(k : Int).toNat]? = some s := by simpa using hs
    refine X.skip ?_
    refine X.seq ?_
    refine X.block ?_
    refine X.seq ?_
    refine X.seq ?_
    refine X.region ?_
    refine Ex.pur (P_move rfl) rfl ?_
    refine Ex.pur (P_move rfl) rfl ?_
    first
      | refine Ex.pur (P_index_sl rfl rfl sl41 ty64 (fun _ => rfl) (by omega) (by assumption)) rfl ?_
      | refine Ex.pur (P_index_own rfl rfl rfl sl41 ty64 (by omega) (by omega)) rfl ?_
    first
      | refine Ex.pur (P_fieldAddr_ptr rfl fo64_0) rfl ?_
      | refine Ex.pur (P_fieldAddr_ept rfl fo64_0) rfl ?_
    first
      | refine Ex.pur (P_load_box rfl rfl rfl ty3) rfl ?_
      | refine Ex.pur (P_load_ept rfl rfl rfl ty3) rfl ?_
      | refine Ex.pur (P_load_row rfl rfl (by assumption) rfl rfl ty3) rfl ?_
    refine Ex.pur (P_neq rfl rfl) rfl ?_
    refine Ex.nil ?_
    refine X.cond rfl (fun hc3 => ?_) (fun hc3 => ?_)
    · try simp only [decide_eq_true_eq, decide_eq_false_iff_not, Bool.not_eq_true', Bool.not_eq_false', Bool.and_eq_true, Bool.or_eq_true, Bool.and_eq_false_iff, Bool.or_eq_false_iff, Int.not_lt, Int.not_le, Decidable.not_not] at hc3
      have hdk : ((dotsK (mdRun l) k).length : Int) = ((dotsK (mdRun l) (k + 1)).length : Int) := by simp [dotsK, hs, hc3]
      refine X.exit ?_
      refine X.region ?_
      refine Ex.pur (P_move rfl) rfl ?_
      refine Ex.pur (P_add rfl rfl (IntWalk.i64_in _ (by omega))) rfl ?_
      refine Ex.pur (P_assign rfl) rfl ?_
      refine Ex.nil ?_
      refine ⟨k + 1, Imp.of (by (repeat' (first | exact True.intro | (refine And.intro ⟨_, rfl, ?_⟩ ?_; (first | exact LeV.refl _ | exact LeV.any _ | exact LeB.refl _ | (refine LeV.eq ?_; simp; done) | (refine LeV.eq ?_; congr 1; omega) | (refine LeV.eq ?_; dsimp only; congr 1; omega) | (refine LeV.eq (congrArg (AV.int _) ?_); omega) | exact LeV.nils _ | exact LeB.row (by assumption) | (refine LeB.eq ?_; congr 1; omega) | (refine LeB.eq ?_; congr 1; simp only [cond_true, cond_false]; omega)))))) (by (repeat' (first | exact True.intro | (refine And.intro ⟨_, rfl, ?_⟩ ?_; (first | exact LeV.refl _ | exact LeV.any _ | exact LeB.refl _ | (refine LeV.eq ?_; simp; done) | (refine LeV.eq ?_; congr 1; omega) | (refine LeV.eq ?_; dsimp only; congr 1; omega) | (refine LeV.eq (congrArg (AV.int _) ?_); omega) | exact LeV.nils _ | exact LeB.row (by assumption) | (refine LeB.eq ?_; congr 1; omega) | (refine LeB.eq ?_; congr 1; simp only [cond_true, cond_false]; omega)))))), ?_, ?_⟩
      · first | trivial | omega | (refine ⟨?_, ?_⟩ <;> omega)
      · omega
    try simp only [decide_eq_true_eq, decide_eq_false_iff_not, Bool.not_eq_true', Bool.not_eq_false', Bool.and_eq_true, Bool.or_eq_true, Bool.and_eq_false_iff, Bool.or_eq_false_iff, Int.not_lt, Int.not_le, Decidable.not_not] at hc3
    obtain ⟨p, hk0, hp, hpS, hp1, hp2, hp3⟩ := gd_dot (m := m) hg hs hc3
    have hdk : ((dotsK (mdRun l) k).length : Int) + 1 = ((dotsK (mdRun l) (k + 1)).length : Int) := by simp [dotsK, hs, hc3]
    have hmo := dotsK_mono (mdRun l) (mdRun l).length (k + 1) (by omega)
    have hat := mnsD_at (m := m) hs hc3 hpS
    have hat2 : (mnsD m (mdRun l))[((dotsK (mdRun l) k).length : Int).toNat]? = some (mngs m p) := by simpa using hat
    have h00 : [mngs m p][(0 : Int).toNat]? = some (mngs m p) := rfl
    refine X.skip ?_
    refine X.seq ?_
    refine X.seq ?_
    refine X.region ?_
    refine Ex.pur (P_move rfl) rfl ?_
    refine Ex.pur (P_move rfl) rfl ?_
    first
      | refine Ex.pur (P_len_sl rfl sl43) rfl ?_
      | refine Ex.pur (P_len_own rfl rfl sl43) rfl ?_
      | refine Ex.pur (P_len_nils rfl sl43) rfl ?_
    refine Ex.pur (P_geq rfl rfl) rfl ?_
    refine Ex.nil ?_
    refine X.cond rfl (fun hc4 => ?_) (fun hc4 => ?_)
    · try simp only [decide_eq_true_eq, decide_eq_false_iff_not, Bool.not_eq_true', Bool.not_eq_false', Bool.and_eq_true, Bool.or_eq_true, Bool.and_eq_false_iff, Bool.or_eq_false_iff, Int.not_lt, Int.not_le, Decidable.not_not] at hc4
      omega
    try simp only [decide_eq_true_eq, decide_eq_false_iff_not, Bool.not_eq_true', Bool.not_eq_false', Bool.and_eq_true, Bool.or_eq_true, Bool.and_eq_false_iff, Bool.or_eq_false_iff, Int.not_lt, Int.not_le, Decidable.not_not] at hc4
    refine X.skip ?_
    refine X.seq ?_
    refine X.draw [12, 13, 48, 49, 50, 51, 52, 53, 54, 55, 56, 57, 58, 59, 60] mo rfl ?_
    first
      | refine Chain.step [] rfl rfl rfl (Pur.stepA (P_load_box_all rfl rfl rfl rfl ty23)) rfl ?_
      | refine Chain.step [] rfl rfl rfl (Pur.stepA (P_load_ept_all rfl rfl rfl ty23)) rfl ?_
      | refine Chain.step [] rfl rfl rfl (Pur.stepA (P_load_ept_part rfl rfl rfl rfl ty23)) rfl ?_
      | refine Chain.step [] rfl rfl rfl (Pur.stepA (P_load_box_part rfl rfl rfl rfl ty23)) rfl ?_
    refine Chain.step [] rfl rfl rfl (Pur.stepA (P_move rfl)) rfl ?_
    refine Chain.step [] rfl rfl rfl (Pur.stepA (P_move rfl)) rfl ?_
    refine Chain.step [2] rfl rfl rfl (Pur.stepA (P_sub rfl rfl (IntWalk.i64_in _ (by omega)))) rfl ?_
    first
      | refine Chain.step [2, 3, 1] rfl rfl rfl (Pur.stepA (P_index_sl rfl rfl sl41 ty64 (fun _ => rfl) (by omega) (by assumption))) rfl ?_
      | refine Chain.step [2, 3, 1] rfl rfl rfl (Pur.stepA (P_index_own rfl rfl rfl sl41 ty64 (by omega) (by omega))) rfl ?_
    first
      | refine Chain.step [2, 3, 1, 4] rfl rfl rfl (Pur.stepA (P_load_ept_all rfl rfl rfl ty64)) rfl ?_
      | refine Chain.step [2, 3, 1, 4] rfl rfl rfl (Pur.stepA (P_load_ept_part rfl rfl rfl rfl ty64)) rfl ?_
    refine Chain.step [] rfl rfl rfl (A_call rfl rfl rfl (LeL.refl _) C_tactuslaw09_point) rfl ?_
    refine Chain.step [2, 3, 1, 4, 6, 5] rfl rfl rfl (A_buildSliceF (enc := sgE) (l := [p, sgDot]) sl41 ty64 ze64 (by decide) rfl rfl rfl rfl (by decide) (by decide) (fun _ => rfl) rfl) rfl ?_
    refine Chain.step [2, 3, 1, 4, 5, 6, 7] rfl rfl rfl (A_call rfl rfl rfl (LeL.refl _) (C_tactuslaw09_run _)) rfl ?_
    refine Chain.step [2, 3, 1, 4, 5, 6, 7, 8, 0] rfl rfl rfl (A_call rfl rfl rfl (LeL.refl _) (C_alone m p hck hp1 hp2 hp3)) rfl ?_
    refine Chain.step [2, 3, 1, 4, 5, 6, 7, 8, 0, 9] rfl rfl rfl (Pur.stepA (P_move rfl)) rfl ?_
    refine Chain.step [2, 3, 1, 4, 5, 6, 7, 8, 0, 9, 10] rfl rfl rfl (Pur.stepA (P_extract rfl rfl)) rfl ?_
    refine Chain.step [2, 3, 1, 4, 5, 6, 7, 8, 0, 9, 10] rfl rfl rfl (Pur.stepA (P_extract rfl rfl)) rfl ?_
    refine Chain.step [10, 8, 7, 6, 5, 4, 3, 2, 1, 0, 9, 11] rfl rfl rfl (Pur.stepA (P_assign rfl)) rfl ?_
    refine Chain.step [11, 10, 9, 8, 7, 6, 5, 4, 3, 2, 1, 0, 13, 12] rfl rfl rfl (Pur.stepA (P_assign rfl)) rfl ?_
    refine Chain.tail [] rfl rfl ?_
    refine Ex.nil ?_
    refine X.seq ?_
    refine X.seq ?_
    have hzz : True := trivial
    · refine X.draw [61, 62, 63, 64, 65, 66, 67, 68, 69, 70, 71, 72, 73, 74, 75, 76, 77, 78] mo rfl ?_
      refine Chain.step [] rfl rfl rfl (Pur.stepA (P_move rfl)) rfl ?_
      refine Chain.step [0] rfl rfl rfl (Pur.stepA (P_neq rfl rfl)) rfl ?_
      refine Chain.step [0, 1] rfl rfl rfl (Pur.stepA (P_move rfl)) rfl ?_
      (refine Chain.gT [0, 1, 2] rfl rfl rfl rfl rfl ?_ (Pur.stepA (P_move rfl)) rfl ?_; iterate 1 (· first | assumption | rfl | omega | (simp; done) | (simp; omega) | (simp_all; done)))
      first
        | (refine Chain.gT [0, 1, 2, 3] rfl rfl rfl rfl rfl ?_ (Pur.stepA (P_len_sl rfl sl43)) rfl ?_; iterate 1 (· first | assumption | rfl | omega | (simp; done) | (simp; omega) | (simp_all; done)))
        | (refine Chain.gT [0, 1, 2, 3] rfl rfl rfl rfl rfl ?_ (Pur.stepA (P_len_own rfl rfl sl43)) rfl ?_; iterate 1 (· first | assumption | rfl | omega | (simp; done) | (simp; omega) | (simp_all; done)))
        | (refine Chain.gT [0, 1, 2, 3] rfl rfl rfl rfl rfl ?_ (Pur.stepA (P_len_nils rfl sl43)) rfl ?_; iterate 1 (· first | assumption | rfl | omega | (simp; done) | (simp; omega) | (simp_all; done)))
      (refine Chain.gT [0, 1, 3, 2, 4] rfl rfl rfl rfl rfl ?_ (Pur.stepA (P_neq rfl rfl)) rfl ?_; iterate 1 (· first | assumption | rfl | omega | (simp; done) | (simp; omega) | (simp_all; done)))
      (refine Chain.step [3, 0, 4, 1, 5, 2] rfl rfl rfl (Pur.stepA (P_pick_false rfl ?_ rfl)) rfl ?_; iterate 1 (· first | assumption | rfl | omega | (simp; done) | (simp; omega) | (simp_all; done)))
      refine Chain.step [3, 0, 4, 1, 5, 2, 6] rfl rfl rfl (Pur.stepA (P_move rfl)) rfl ?_
      (refine Chain.gT [3, 0, 4, 1, 5, 2, 6, 7] rfl rfl rfl rfl rfl ?_ (Pur.stepA (P_move rfl)) rfl ?_; iterate 1 (· first | assumption | rfl | omega | (simp; done) | (simp; omega) | (simp_all; done)))
      first
        | (refine Chain.gT [3, 0, 4, 1, 5, 2, 6, 7, 8] rfl rfl rfl rfl rfl ?_ (Pur.stepA (P_index_sl rfl rfl sl43 ty29 (fun _ => rfl) (by omega) (by assumption))) rfl ?_; iterate 1 (· first | assumption | rfl | omega | (simp; done) | (simp; omega) | (simp_all; done)))
        | (refine Chain.gT [3, 0, 4, 1, 5, 2, 6, 7, 8] rfl rfl rfl rfl rfl ?_ (Pur.stepA (P_index_own rfl rfl rfl sl43 ty29 (by omega) (by omega))) rfl ?_; iterate 1 (· first | assumption | rfl | omega | (simp; done) | (simp; omega) | (simp_all; done)))
      first
        | (refine Chain.gT [3, 0, 4, 1, 5, 2, 6, 8, 7, 9] rfl rfl rfl rfl rfl ?_ (Pur.stepA (P_load_box rfl rfl rfl ty29)) rfl ?_; iterate 1 (· first | assumption | rfl | omega | (simp; done) | (simp; omega) | (simp_all; done)))
        | (refine Chain.gT [3, 0, 4, 1, 5, 2, 6, 8, 7, 9] rfl rfl rfl rfl rfl ?_ (Pur.stepA (P_load_ept rfl rfl rfl ty29)) rfl ?_; iterate 1 (· first | assumption | rfl | omega | (simp; done) | (simp; omega) | (simp_all; done)))
        | (refine Chain.gT [3, 0, 4, 1, 5, 2, 6, 8, 7, 9] rfl rfl rfl rfl rfl ?_ (Pur.stepA (P_load_row rfl rfl (by assumption) rfl rfl ty29)) rfl ?_; iterate 1 (· first | assumption | rfl | omega | (simp; done) | (simp; omega) | (simp_all; done)))
      (refine Chain.gT [3, 0, 4, 1, 5, 2, 6, 7] rfl rfl rfl rfl rfl ?_ (Pur.stepA (P_move rfl)) rfl ?_; iterate 1 (· first | assumption | rfl | omega | (simp; done) | (simp; omega) | (simp_all; done)))
      (refine Chain.gT [3, 0, 4, 1, 5, 2, 6, 7] rfl rfl rfl rfl rfl ?_ (Pur.stepA (P_move rfl)) rfl ?_; iterate 1 (· first | assumption | rfl | omega | (simp; done) | (simp; omega) | (simp_all; done)))
      first
        | (refine Chain.gT [3, 0, 4, 1, 5, 2, 6, 7, 12, 11] rfl rfl rfl rfl rfl ?_ (Pur.stepA (P_index_sl rfl rfl sl43 ty29 (fun _ => rfl) (by omega) (by assumption))) rfl ?_; iterate 1 (· first | assumption | rfl | omega | (simp; done) | (simp; omega) | (simp_all; done)))
        | (refine Chain.gT [3, 0, 4, 1, 5, 2, 6, 7, 12, 11] rfl rfl rfl rfl rfl ?_ (Pur.stepA (P_index_own rfl rfl rfl sl43 ty29 (by omega) (by omega))) rfl ?_; iterate 1 (· first | assumption | rfl | omega | (simp; done) | (simp; omega) | (simp_all; done)))
      first
        | (refine Chain.gT [3, 0, 4, 1, 5, 2, 6, 12, 11, 7, 13] rfl rfl rfl rfl rfl ?_ (Pur.stepA (P_load_box rfl rfl rfl ty29)) rfl ?_; iterate 1 (· first | assumption | rfl | omega | (simp; done) | (simp; omega) | (simp_all; done)))
        | (refine Chain.gT [3, 0, 4, 1, 5, 2, 6, 12, 11, 7, 13] rfl rfl rfl rfl rfl ?_ (Pur.stepA (P_load_ept rfl rfl rfl ty29)) rfl ?_; iterate 1 (· first | assumption | rfl | omega | (simp; done) | (simp; omega) | (simp_all; done)))
        | (refine Chain.gT [3, 0, 4, 1, 5, 2, 6, 12, 11, 7, 13] rfl rfl rfl rfl rfl ?_ (Pur.stepA (P_load_row rfl rfl (by assumption) rfl rfl ty29)) rfl ?_; iterate 1 (· first | assumption | rfl | omega | (simp; done) | (simp; omega) | (simp_all; done)))
      (refine Chain.gT [3, 0, 4, 1, 5, 12, 11, 8, 2, 6, 13, 9, 7, 14, 10] rfl rfl rfl rfl rfl ?_ (A_call rfl rfl rfl (LeL.refl _) (C_ints_eq (mngs m p) (by have := mngs_len m p; omega))) rfl ?_; iterate 1 (· first | assumption | rfl | omega | (simp; done) | (simp; omega) | (simp_all; done)))
      (refine Chain.gT [3, 0, 4, 12, 11, 8, 1, 5, 13, 9, 2, 6, 14, 10, 7, 15] rfl rfl rfl rfl rfl ?_ (Pur.stepA (P_not rfl)) rfl ?_; iterate 1 (· first | assumption | rfl | omega | (simp; done) | (simp; omega) | (simp_all; done)))
      (refine Chain.step [12, 11, 8, 3, 13, 9, 0, 4, 14, 10, 1, 5, 15, 2, 6, 16, 7] rfl rfl rfl (Pur.stepA (P_pick_false rfl ?_ rfl)) rfl ?_; iterate 1 (· first | assumption | rfl | omega | (simp; done) | (simp; omega) | (simp_all; done)))
      refine Chain.tail [] rfl rfl ?_
      refine Ex.nil ?_
      refine X.cond rfl (fun hc5 => ?_) (fun hc5 => ?_)
      · try simp only [decide_eq_true_eq, decide_eq_false_iff_not, Bool.not_eq_true', Bool.not_eq_false', Bool.and_eq_true, Bool.or_eq_true, Bool.and_eq_false_iff, Bool.or_eq_false_iff, Int.not_lt, Int.not_le, Decidable.not_not] at hc5
        simp at hc5
      try simp only [decide_eq_true_eq, decide_eq_false_iff_not, Bool.not_eq_true', Bool.not_eq_false', Bool.and_eq_true, Bool.or_eq_true, Bool.and_eq_false_iff, Bool.or_eq_false_iff, Int.not_lt, Int.not_le, Decidable.not_not] at hc5
      refine X.skip ?_
      refine X.region ?_
      refine Ex.pur (P_move rfl) rfl ?_
      refine Ex.pur (P_add rfl rfl (IntWalk.i64_in _ (by omega))) rfl ?_
      refine Ex.pur (P_assign rfl) rfl ?_
      refine Ex.nil ?_
      refine X.region ?_
      refine Ex.pur (P_move rfl) rfl ?_
      refine Ex.pur (P_add rfl rfl (IntWalk.i64_in _ (by omega))) rfl ?_
      refine Ex.pur (P_assign rfl) rfl ?_
      refine Ex.nil ?_
      refine ⟨k + 1, Imp.of (by (repeat' (first | exact True.intro | (refine And.intro ⟨_, rfl, ?_⟩ ?_; (first | exact LeV.refl _ | exact LeV.any _ | exact LeB.refl _ | (refine LeV.eq ?_; simp; done) | (refine LeV.eq ?_; congr 1; omega) | (refine LeV.eq ?_; dsimp only; congr 1; omega) | (refine LeV.eq (congrArg (AV.int _) ?_); omega) | exact LeV.nils _ | exact LeB.row (by assumption) | (refine LeB.eq ?_; congr 1; omega) | (refine LeB.eq ?_; congr 1; simp only [cond_true, cond_false]; omega)))))) (by (repeat' (first | exact True.intro | (refine And.intro ⟨_, rfl, ?_⟩ ?_; (first | exact LeV.refl _ | exact LeV.any _ | exact LeB.refl _ | (refine LeV.eq ?_; simp; done) | (refine LeV.eq ?_; congr 1; omega) | (refine LeV.eq ?_; dsimp only; congr 1; omega) | (refine LeV.eq (congrArg (AV.int _) ?_); omega) | exact LeV.nils _ | exact LeB.row (by assumption) | (refine LeB.eq ?_; congr 1; omega) | (refine LeB.eq ?_; congr 1; simp only [cond_true, cond_false]; omega)))))), ?_, ?_⟩
      · first | trivial | omega | (refine ⟨?_, ?_⟩ <;> omega)
      · omega
  · try simp only [decide_eq_true_eq, decide_eq_false_iff_not, Bool.not_eq_true', Bool.not_eq_false', Bool.and_eq_true, Bool.or_eq_true, Bool.and_eq_false_iff, Bool.or_eq_false_iff, Int.not_lt, Int.not_le, Decidable.not_not] at hc2
    have hkl : k = (mdRun l).length := by omega
    subst hkl
    refine X.exit ?_
    refine X.seq ?_
    refine X.region ?_
    first
      | refine Ex.pur (P_load_box_all rfl rfl rfl rfl ty23) rfl ?_
      | refine Ex.pur (P_load_ept_all rfl rfl rfl ty23) rfl ?_
      | refine Ex.pur (P_load_ept_part rfl rfl rfl rfl ty23) rfl ?_
      | refine Ex.pur (P_load_box_part rfl rfl rfl rfl ty23) rfl ?_
    refine Ex.call rfl rfl rfl (C_tactusref05_Above' m 5) rfl ?_
    refine Ex.pur (P_move rfl) rfl ?_
    refine Ex.pur (P_extract rfl rfl) rfl ?_
    refine Ex.pur (P_extract rfl rfl) rfl ?_
    refine Ex.pur (P_assign rfl) rfl ?_
    refine Ex.pur (P_assign rfl) rfl ?_
    refine Ex.nil ?_
    refine X.seq ?_
    refine X.draw [16, 17, 86, 87, 88, 89, 90, 91, 92, 93, 94] mo rfl ?_
    first
      | refine Chain.step [] rfl rfl rfl (Pur.stepA (P_load_box_all rfl rfl rfl rfl ty23)) rfl ?_
      | refine Chain.step [] rfl rfl rfl (Pur.stepA (P_load_ept_all rfl rfl rfl ty23)) rfl ?_
      | refine Chain.step [] rfl rfl rfl (Pur.stepA (P_load_ept_part rfl rfl rfl rfl ty23)) rfl ?_
      | refine Chain.step [] rfl rfl rfl (Pur.stepA (P_load_box_part rfl rfl rfl rfl ty23)) rfl ?_
    refine Chain.step [] rfl rfl rfl (A_call rfl rfl rfl (LeL.refl _) (C_tactuslaw09_note 5)) rfl ?_
    refine Chain.step [1] rfl rfl rfl (A_call rfl rfl rfl (LeL.refl _) C_tactuslaw09_point) rfl ?_
    refine Chain.step [2, 1] rfl rfl rfl (A_buildSliceF (enc := sgE) (l := [sgNote 5, sgDot]) sl41 ty64 ze64 (by decide) rfl rfl rfl rfl (by decide) (by decide) (fun _ => rfl) rfl) rfl ?_
    refine Chain.step [1, 2, 3] rfl rfl rfl (A_call rfl rfl rfl (LeL.refl _) (C_tactuslaw09_run _)) rfl ?_
    refine Chain.step [1, 2, 3, 4, 0] rfl rfl rfl (A_call rfl rfl rfl (LeL.refl _) (C_alone m (sgNote 5) hck rfl (by decide) (by decide))) rfl ?_
    refine Chain.step [1, 2, 3, 4, 0, 5] rfl rfl rfl (Pur.stepA (P_move rfl)) rfl ?_
    refine Chain.step [1, 2, 3, 4, 0, 5, 6] rfl rfl rfl (Pur.stepA (P_extract rfl rfl)) rfl ?_
    refine Chain.step [1, 2, 3, 4, 0, 5, 6] rfl rfl rfl (Pur.stepA (P_extract rfl rfl)) rfl ?_
    refine Chain.step [6, 4, 3, 2, 1, 0, 5, 7] rfl rfl rfl (Pur.stepA (P_assign rfl)) rfl ?_
    refine Chain.step [7, 6, 5, 4, 3, 2, 1, 0, 9, 8] rfl rfl rfl (Pur.stepA (P_assign rfl)) rfl ?_
    refine Chain.tail [] rfl rfl ?_
    refine Ex.nil ?_
    refine X.seq ?_
    refine X.region ?_
    refine Ex.pur (P_move rfl) rfl ?_
    refine Ex.stepA (A_buildSliceF (enc := intE) (l := [_, _]) sl29 ty3 ze3 (by decide) rfl rfl rfl rfl (by decide) (by decide) (fun _ => rfl) rfl) rfl rfl ?_
    refine Ex.stepA (A_buildSliceF (enc := intsE) (l := [_]) sl43 ty29 ze29 (by decide) rfl rfl rfl rfl (by decide) (by decide) (fun _ => rfl) rfl) rfl rfl ?_
    refine Ex.pur (P_assign rfl) rfl ?_
    refine Ex.nil ?_
    refine X.seq ?_
    refine X.seq ?_
    refine X.region ?_
    refine Ex.pur (P_move rfl) rfl ?_
    refine Ex.pur (P_eql rfl rfl) rfl ?_
    refine Ex.nil ?_
    refine X.cond rfl (fun hc6 => ?_) (fun hc6 => ?_)
    · try simp only [decide_eq_true_eq, decide_eq_false_iff_not, Bool.not_eq_true', Bool.not_eq_false', Bool.and_eq_true, Bool.or_eq_true, Bool.and_eq_false_iff, Bool.or_eq_false_iff, Int.not_lt, Int.not_le, Decidable.not_not] at hc6
      have hmm : mngs m (sgNote 5) = [0] := by rw [minim_mng m hck, if_pos hc6]
      have hSL : Fn Try.prog 34 [listsA [mngs m (sgNote 5)], listsA [[0]]] (.bool true) := by rw [hmm]; exact C_lists_eq [[0]] (by decide) (by simp)
      refine X.region ?_
      refine Ex.stepA (A_buildSliceF (enc := intE) (l := [_]) sl29 ty3 ze3 (by decide) rfl rfl rfl rfl (by decide) (by decide) (fun _ => rfl) rfl) rfl rfl ?_
      refine Ex.stepA (A_buildSliceF (enc := intsE) (l := [_]) sl43 ty29 ze29 (by decide) rfl rfl rfl rfl (by decide) (by decide) (fun _ => rfl) rfl) rfl rfl ?_
      refine Ex.pur (P_assign rfl) rfl ?_
      refine Ex.nil ?_
      refine X.seq ?_
      refine X.region ?_
      refine Ex.pur (P_move rfl) rfl ?_
      refine Ex.pur (P_move rfl) rfl ?_
      refine Ex.gstart (t := 103) true rfl ?_
      refine ExG.step rfl rfl rfl (fun hg => Pur.stepA (P_move rfl)) rfl ?_
      refine ExG.step rfl rfl rfl (fun hg => Pur.stepA (P_move rfl)) rfl ?_
      first
        | refine ExG.step rfl rfl rfl (fun hg => Pur.stepA (P_len_sl rfl sl43)) rfl ?_
        | refine ExG.step rfl rfl rfl (fun hg => Pur.stepA (P_len_own rfl rfl sl43)) rfl ?_
        | refine ExG.step rfl rfl rfl (fun hg => Pur.stepA (P_len_nils rfl sl43)) rfl ?_
      refine ExG.step rfl rfl rfl (fun hg => Pur.stepA (P_eql rfl rfl)) rfl ?_
      refine ExG.done ?_
      first
        | refine Ex.pur (P_and rfl rfl) rfl ?_
        | refine Ex.pur (P_or rfl rfl) rfl ?_
        | (refine Ex.pur (P_pick_true rfl ?_ rfl) rfl ?_; iterate 1 (· first | assumption | rfl | omega | (simp; done) | (simp; omega) | (simp_all; done)))
        | (refine Ex.pur (P_pick_false rfl ?_ rfl) rfl ?_; iterate 1 (· first | assumption | rfl | omega | (simp; done) | (simp; omega) | (simp_all; done)))
      refine Ex.pur (P_move rfl) rfl ?_
      refine Ex.gstart (t := 109) true rfl ?_
      refine ExG.step rfl rfl rfl (fun hg => Pur.stepA (P_move rfl)) rfl ?_
      refine ExG.step rfl rfl rfl (fun hg => Pur.stepA (P_eql rfl rfl)) rfl ?_
      refine ExG.done ?_
      first
        | refine Ex.pur (P_and rfl rfl) rfl ?_
        | refine Ex.pur (P_or rfl rfl) rfl ?_
        | (refine Ex.pur (P_pick_true rfl ?_ rfl) rfl ?_; iterate 1 (· first | assumption | rfl | omega | (simp; done) | (simp; omega) | (simp_all; done)))
        | (refine Ex.pur (P_pick_false rfl ?_ rfl) rfl ?_; iterate 1 (· first | assumption | rfl | omega | (simp; done) | (simp; omega) | (simp_all; done)))
      refine Ex.pur (P_move rfl) rfl ?_
      refine Ex.gstart (t := 113) true rfl ?_
      refine ExG.step rfl rfl rfl (fun hg => Pur.stepA (P_move rfl)) rfl ?_
      refine ExG.step rfl rfl rfl (fun hg => Pur.stepA (P_move rfl)) rfl ?_
      refine ExG.step rfl rfl rfl (fun hg => A_call rfl rfl rfl (LeL.refl _) hSL) rfl ?_
      refine ExG.done ?_
      first
        | refine Ex.pur (P_and rfl rfl) rfl ?_
        | refine Ex.pur (P_or rfl rfl) rfl ?_
        | (refine Ex.pur (P_pick_true rfl ?_ rfl) rfl ?_; iterate 1 (· first | assumption | rfl | omega | (simp; done) | (simp; omega) | (simp_all; done)))
        | (refine Ex.pur (P_pick_false rfl ?_ rfl) rfl ?_; iterate 1 (· first | assumption | rfl | omega | (simp; done) | (simp; omega) | (simp_all; done)))
      refine Ex.pur (P_assign rfl) rfl ?_
      refine Ex.nil ?_
      refine X.ret ?_
      refine RetQ.ret (.one (.tmp rfl (LeV.eq ?_)))
      all_goals (first | rfl | simp [hmd] | simp)
    · try simp only [decide_eq_true_eq, decide_eq_false_iff_not, Bool.not_eq_true', Bool.not_eq_false', Bool.and_eq_true, Bool.or_eq_true, Bool.and_eq_false_iff, Bool.or_eq_false_iff, Int.not_lt, Int.not_le, Decidable.not_not] at hc6
      have hmm : mngs m (sgNote 5) = [0, m.aV 5] := by rw [minim_mng m hck, if_neg hc6]
      have hSL : Fn Try.prog 34 [listsA [mngs m (sgNote 5)], listsA [[0, m.aV 5]]] (.bool true) := by rw [hmm]; exact C_lists_eq [[0, m.aV 5]] (by simp) (by simp)
      refine X.skip ?_
      refine X.seq ?_
      refine X.region ?_
      refine Ex.pur (P_move rfl) rfl ?_
      refine Ex.pur (P_move rfl) rfl ?_
      refine Ex.gstart (t := 103) true rfl ?_
      refine ExG.step rfl rfl rfl (fun hg => Pur.stepA (P_move rfl)) rfl ?_
      refine ExG.step rfl rfl rfl (fun hg => Pur.stepA (P_move rfl)) rfl ?_
      first
        | refine ExG.step rfl rfl rfl (fun hg => Pur.stepA (P_len_sl rfl sl43)) rfl ?_
        | refine ExG.step rfl rfl rfl (fun hg => Pur.stepA (P_len_own rfl rfl sl43)) rfl ?_
        | refine ExG.step rfl rfl rfl (fun hg => Pur.stepA (P_len_nils rfl sl43)) rfl ?_
      refine ExG.step rfl rfl rfl (fun hg => Pur.stepA (P_eql rfl rfl)) rfl ?_
      refine ExG.done ?_
      first
        | refine Ex.pur (P_and rfl rfl) rfl ?_
        | refine Ex.pur (P_or rfl rfl) rfl ?_
        | (refine Ex.pur (P_pick_true rfl ?_ rfl) rfl ?_; iterate 1 (· first | assumption | rfl | omega | (simp; done) | (simp; omega) | (simp_all; done)))
        | (refine Ex.pur (P_pick_false rfl ?_ rfl) rfl ?_; iterate 1 (· first | assumption | rfl | omega | (simp; done) | (simp; omega) | (simp_all; done)))
      refine Ex.pur (P_move rfl) rfl ?_
      refine Ex.gstart (t := 109) true rfl ?_
      refine ExG.step rfl rfl rfl (fun hg => Pur.stepA (P_move rfl)) rfl ?_
      refine ExG.step rfl rfl rfl (fun hg => Pur.stepA (P_eql rfl rfl)) rfl ?_
      refine ExG.done ?_
      first
        | refine Ex.pur (P_and rfl rfl) rfl ?_
        | refine Ex.pur (P_or rfl rfl) rfl ?_
        | (refine Ex.pur (P_pick_true rfl ?_ rfl) rfl ?_; iterate 1 (· first | assumption | rfl | omega | (simp; done) | (simp; omega) | (simp_all; done)))
        | (refine Ex.pur (P_pick_false rfl ?_ rfl) rfl ?_; iterate 1 (· first | assumption | rfl | omega | (simp; done) | (simp; omega) | (simp_all; done)))
      refine Ex.pur (P_move rfl) rfl ?_
      refine Ex.gstart (t := 113) true rfl ?_
      refine ExG.step rfl rfl rfl (fun hg => Pur.stepA (P_move rfl)) rfl ?_
      refine ExG.step rfl rfl rfl (fun hg => Pur.stepA (P_move rfl)) rfl ?_
      refine ExG.step rfl rfl rfl (fun hg => A_call rfl rfl rfl (LeL.refl _) hSL) rfl ?_
      refine ExG.done ?_
      first
        | refine Ex.pur (P_and rfl rfl) rfl ?_
        | refine Ex.pur (P_or rfl rfl) rfl ?_
        | (refine Ex.pur (P_pick_true rfl ?_ rfl) rfl ?_; iterate 1 (· first | assumption | rfl | omega | (simp; done) | (simp; omega) | (simp_all; done)))
        | (refine Ex.pur (P_pick_false rfl ?_ rfl) rfl ?_; iterate 1 (· first | assumption | rfl | omega | (simp; done) | (simp; omega) | (simp_all; done)))
      refine Ex.pur (P_assign rfl) rfl ?_
      refine Ex.nil ?_
      refine X.ret ?_
      refine RetQ.ret (.one (.tmp rfl (LeV.eq ?_)))
      all_goals (first | rfl | simp [hmd] | simp)
end Go.Rse
