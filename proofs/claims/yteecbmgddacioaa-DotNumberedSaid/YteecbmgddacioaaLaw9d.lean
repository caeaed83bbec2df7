/-
  Walks: numbers made into mensurations and runs.
-/
import Derived.Test.YteecbmgddacioaaLaw9c
namespace Go.Rse
open Go Go.Proofs
set_option linter.unusedVariables false
set_option linter.unusedSimpArgs false
attribute [local irreducible] Pur StepA StepM Ex X ExG Fn Imp LeV LeB FnO It YStep
theorem tmod_fix {a n : Int} (hn : 0 < n) : (a.tmod n < 0 → a.tmod n + n = a % n) ∧ (¬ a.tmod n < 0 → a.tmod n = a % n) ∧ -n < a.tmod n ∧ a.tmod n < n := by
  rw [Int.tmod_eq_emod]
  have h0 := Int.emod_nonneg a (show n ≠ 0 by omega)
  have h1 := Int.emod_lt_of_pos a hn
  split <;> omega
/-- The signs made of one number. -/
def mdS (n : Int) : List Sg :=
  if n % 60 % 5 = 4 then [sgRest (2 + n % 60 % 4)]
  else if 40 ≤ n % 60 then [{ sgNote (2 + n % 60 % 4) with Color := decide (n % 60 % 7 = 3) }, sgDot] else [{ sgNote (2 + n % 60 % 4) with Color := decide (n % 60 % 7 = 3) }]
def mdK (l : List Int) (k : Nat) : List Sg := (l.take k).flatMap mdS
def mdRun (l : List Int) : List Sg := mdK l 20
theorem mdS_len (n : Int) : (mdS n).length ≤ 2 := by unfold mdS; repeat' split
                                                     all_goals simp
theorem md_len (l : List Int) : ∀ k, (mdK l k).length ≤ 2 * k
  | 0 => by simp [mdK]
  | k + 1 => by
    unfold mdK
    rw [List.take_add_one, List.flatMap_append, List.length_append]
    have h1 : ((l.take k).flatMap mdS).length ≤ 2 * k := md_len l k
    cases l[k]? with
    | none => simp only [Option.toList_none, List.flatMap_nil, List.length_nil]; omega
    | some x => have := mdS_len x; simp only [Option.toList_some, List.flatMap_cons, List.flatMap_nil, List.append_nil]; omega
theorem md_step {l : List Int} {k : Nat} {x : Int} (h : l[k]? = some x) : mdK l (k + 1) = mdK l k ++ mdS x := by
  unfold mdK; rw [List.take_add_one, h]; simp
theorem C_tactuskit_Mod (a n : Int) (ha : -9223372036854775808 ≤ a ∧ a ≤ 9223372036854775807) (hn : 1 ≤ n ∧ n ≤ 4611686018427387904) : Fn Try.prog 24 [iv a, iv n] (iv (a % n)) := by
  obtain ⟨ht1, ht2, ht3, ht4⟩ := tmod_fix (a := a) (n := n) (by omega)
  refine Fn.intro (ts := [(0, iv a), (1, iv n)]) (rv := [.tmp 4]) (n := 16) (by kernel_rfl) Try.func24 rfl Try.ntmps24 rfl rfl rfl (by simp) (fun g w d => ?_)
  refine X.seq ?_
  refine X.region ?_
  refine Ex.pur (P_assign rfl) rfl ?_
  refine Ex.nil ?_
  refine X.seq ?_
  refine X.seq ?_
  refine X.region ?_
  refine Ex.pur (P_move rfl) rfl ?_
  refine Ex.pur (P_lss rfl rfl) rfl ?_
  refine Ex.nil ?_
  refine X.cond rfl (fun hc1 => ?_) (fun hc1 => ?_)
  · try simp only [decide_eq_true_eq, decide_eq_false_iff_not, Bool.not_eq_true', Bool.not_eq_false', Bool.and_eq_true, Bool.or_eq_true, Bool.and_eq_false_iff, Bool.or_eq_false_iff, Int.not_lt, Int.not_le, Decidable.not_not] at hc1
    omega
  try simp only [decide_eq_true_eq, decide_eq_false_iff_not, Bool.not_eq_true', Bool.not_eq_false', Bool.and_eq_true, Bool.or_eq_true, Bool.and_eq_false_iff, Bool.or_eq_false_iff, Int.not_lt, Int.not_le, Decidable.not_not] at hc1
  refine X.skip ?_
  refine X.seq ?_
  refine X.region ?_
  refine Ex.pur (P_move rfl) rfl ?_
  refine Ex.pur (P_move rfl) rfl ?_
  refine Ex.pur (P_rem rfl rfl (by omega)) rfl ?_
  refine Ex.pur (P_assign rfl) rfl ?_
  refine Ex.nil ?_
  refine X.seq ?_
  refine X.seq ?_
  refine X.region ?_
  refine Ex.pur (P_move rfl) rfl ?_
  refine Ex.pur (P_lss rfl rfl) rfl ?_
  refine Ex.nil ?_
  refine X.cond rfl (fun hc2 => ?_) (fun hc2 => ?_)
  · try simp only [decide_eq_true_eq, decide_eq_false_iff_not, Bool.not_eq_true', Bool.not_eq_false', Bool.and_eq_true, Bool.or_eq_true, Bool.and_eq_false_iff, Bool.or_eq_false_iff, Int.not_lt, Int.not_le, Decidable.not_not] at hc2
    refine X.region ?_
    refine Ex.pur (P_move rfl) rfl ?_
    refine Ex.pur (P_move rfl) rfl ?_
    refine Ex.pur (P_add rfl rfl (IntWalk.i64_in _ (by omega))) rfl ?_
    refine Ex.pur (P_assign rfl) rfl ?_
    refine Ex.nil ?_
    refine X.seq ?_
    refine X.region ?_
    refine Ex.pur (P_move rfl) rfl ?_
    refine Ex.pur (P_assign rfl) rfl ?_
    refine Ex.nil ?_
    refine X.ret ?_
    refine RetQ.ret (.one (.tmp rfl (LeV.eq ?_)))
    all_goals (congr 1; exact ht1 (by omega))
  · try simp only [decide_eq_true_eq, decide_eq_false_iff_not, Bool.not_eq_true', Bool.not_eq_false', Bool.and_eq_true, Bool.or_eq_true, Bool.and_eq_false_iff, Bool.or_eq_false_iff, Int.not_lt, Int.not_le, Decidable.not_not] at hc2
    refine X.skip ?_
    refine X.seq ?_
    refine X.region ?_
    refine Ex.pur (P_move rfl) rfl ?_
    refine Ex.pur (P_assign rfl) rfl ?_
    refine Ex.nil ?_
    refine X.ret ?_
    refine RetQ.ret (.one (.tmp rfl (LeV.eq ?_)))
    all_goals (congr 1; exact ht2 (by omega))
theorem C_tactuskit_Mens (n : Int) (hn : -9223372036854775808 ≤ n ∧ n ≤ 9223372036854775807) : Fn Try.prog 22 [iv n] (mnA ⟨2 + n % 16 / 8, 2 + n % 16 / 4 % 2, 2 + n % 16 / 2 % 2, 2 + n % 16 % 2⟩) := by
  refine Fn.intro (ts := [(0, iv n)]) (rv := [.cell 2 23]) (n := 21) (by kernel_rfl) Try.func22 rfl Try.ntmps22 rfl rfl rfl (by simp) (fun g w d => ?_)
  refine X.seq ?_
  refine X.region ?_
  refine Ex.stepA (A_alloc (k := 2) zc23) rfl rfl ?_
  refine Ex.nil ?_
  refine X.seq ?_
  refine X.region ?_
  refine Ex.pur (P_move rfl) rfl ?_
  refine Ex.call rfl rfl rfl (C_tactuskit_Mod n 16 hn (by omega)) rfl ?_
  refine Ex.pur (P_assign rfl) rfl ?_
  refine Ex.nil ?_
  refine X.seq ?_
  refine X.region ?_
  refine Ex.pur (P_move rfl) rfl ?_
  first
    | refine Ex.pur (P_quo' rfl rfl (by omega) (by omega) (by omega)) rfl ?_
    | refine Ex.pur (P_quo rfl rfl (by omega) (IntWalk.i64_in _ (by omega))) rfl ?_
  refine Ex.pur (P_add rfl rfl (IntWalk.i64_in _ (by omega))) rfl ?_
  refine Ex.pur (P_move rfl) rfl ?_
  first
    | refine Ex.pur (P_quo' rfl rfl (by omega) (by omega) (by omega)) rfl ?_
    | refine Ex.pur (P_quo rfl rfl (by omega) (IntWalk.i64_in _ (by omega))) rfl ?_
  first
    | refine Ex.pur (P_rem' rfl rfl (by omega) (by omega)) rfl ?_
    | refine Ex.pur (P_rem rfl rfl (by omega)) rfl ?_
  refine Ex.pur (P_add rfl rfl (IntWalk.i64_in _ (by omega))) rfl ?_
  refine Ex.pur (P_move rfl) rfl ?_
  first
    | refine Ex.pur (P_quo' rfl rfl (by omega) (by omega) (by omega)) rfl ?_
    | refine Ex.pur (P_quo rfl rfl (by omega) (IntWalk.i64_in _ (by omega))) rfl ?_
  first
    | refine Ex.pur (P_rem' rfl rfl (by omega) (by omega)) rfl ?_
    | refine Ex.pur (P_rem rfl rfl (by omega)) rfl ?_
  refine Ex.pur (P_add rfl rfl (IntWalk.i64_in _ (by omega))) rfl ?_
  refine Ex.pur (P_move rfl) rfl ?_
  first
    | refine Ex.pur (P_rem' rfl rfl (by omega) (by omega)) rfl ?_
    | refine Ex.pur (P_rem rfl rfl (by omega)) rfl ?_
  refine Ex.pur (P_add rfl rfl (IntWalk.i64_in _ (by omega))) rfl ?_
  refine Ex.pur (P_build pl23 ia23 zc23 rfl rfl rfl) rfl ?_
  refine Ex.stepM (M_store_agg rfl rfl rfl rfl ty23 rfl (leB rfl)) ?_
  refine Ex.nil ?_
  refine X.ret ?_
  refine RetQ.ret (.one (.cellA rfl rfl rfl rfl ty23 (LeV.eq ?_)))
  all_goals (first | rfl | (simp_all; done))
theorem C_tactuskit_Has (l : List Int) (x : Int) (hl : l.length ≤ 4000000000) : Fn Try.prog 59 [intsA l, iv x] (.bool (decide (x ∈ l))) := by
  refine Fn.intro (ts := [(0, intsA l), (1, iv x)]) (rv := [.tmp 4]) (n := 18) (by kernel_rfl) Try.func59 rfl Try.ntmps59 rfl rfl rfl (by simp) (fun g w d => ?_)
  refine X.seq ?_
  refine X.region ?_
  refine Ex.pur (P_assign rfl) rfl ?_
  refine Ex.nil ?_
  refine X.seq ?_
  refine X.seq ?_
  refine X.region ?_
  refine Ex.pur (P_assign rfl) rfl ?_
  refine Ex.nil ?_
  refine X.block ?_
  refine X.loop (ι := Nat) (fun (k : Nat) => ⟨[(0, intsA l), (1, iv x), (5, iv (k : Int))], []⟩) (fun (k : Nat) => k ≤ l.length ∧ ∀ (i : Nat) u, i < k → l[i]? = some u → ¬ u = x) (fun (k : Nat) => l.length - k) 0 ?_ ?_ (fun k hk => ?_)
  · exact Imp.of (by (repeat' (first | exact True.intro | (refine And.intro ⟨_, rfl, ?_⟩ ?_; (first | exact LeV.refl _ | exact LeV.any _ | exact LeB.refl _ | (refine LeV.eq ?_; simp; done) | (refine LeV.eq ?_; congr 1; omega) | (refine LeV.eq ?_; dsimp only; congr 1; omega) | (refine LeV.eq (congrArg (AV.int _) ?_); omega) | exact LeV.nils _ | exact LeB.row (by assumption) | (refine LeB.eq ?_; congr 1; omega) | (refine LeB.eq ?_; congr 1; simp only [cond_true, cond_false]; omega)))))) (by (repeat' (first | exact True.intro | (refine And.intro ⟨_, rfl, ?_⟩ ?_; (first | exact LeV.refl _ | exact LeV.any _ | exact LeB.refl _ | (refine LeV.eq ?_; simp; done) | (refine LeV.eq ?_; congr 1; omega) | (refine LeV.eq ?_; dsimp only; congr 1; omega) | (refine LeV.eq (congrArg (AV.int _) ?_); omega) | exact LeV.nils _ | exact LeB.row (by assumption) | (refine LeB.eq ?_; congr 1; omega) | (refine LeB.eq ?_; congr 1; simp only [cond_true, cond_false]; omega))))))
  · exact ⟨by omega, fun i u h => absurd h (Nat.not_lt_zero i)⟩
  obtain ⟨hk1, hk2⟩ := hk
  refine X.seq ?_
  refine X.seq ?_
  refine X.region ?_
  refine Ex.pur (P_move rfl) rfl ?_
  refine Ex.pur (P_move rfl) rfl ?_
  first
    | refine Ex.pur (P_len_sl rfl sl29) rfl ?_
    | refine Ex.pur (P_len_own rfl rfl sl29) rfl ?_
    | refine Ex.pur (P_len_nils rfl sl29) rfl ?_
  refine Ex.pur (P_lss rfl rfl) rfl ?_
  refine Ex.nil ?_
  refine X.cond rfl (fun hc1 => ?_) (fun hc1 => ?_)
  · try simp only [decide_eq_true_eq, decide_eq_false_iff_not, Bool.not_eq_true', Bool.not_eq_false', Bool.and_eq_true, Bool.or_eq_true, Bool.and_eq_false_iff, Bool.or_eq_false_iff, Int.not_lt, Int.not_le, Decidable.not_not] at hc1
    obtain ⟨v, hv⟩ : ∃ v, l[k]? = some v := ⟨_, List.getElem?_eq_getElem (by omega)⟩
    have hv2 : l[(k : Int).toNat]? = some v := by simpa using hv
    refine X.skip ?_
    refine X.seq ?_
    refine X.block ?_
    refine X.seq ?_
    refine X.region ?_
    refine Ex.pur (P_move rfl) rfl ?_
    refine Ex.pur (P_move rfl) rfl ?_
    first
      | refine Ex.pur (P_index_sl rfl rfl sl29 ty3 (fun _ => rfl) (by omega) (by assumption)) rfl ?_
      | refine Ex.pur (P_index_own rfl rfl rfl sl29 ty3 (by omega) (by omega)) rfl ?_
    first
      | refine Ex.pur (P_load_box rfl rfl rfl ty3) rfl ?_
      | refine Ex.pur (P_load_ept rfl rfl rfl ty3) rfl ?_
      | refine Ex.pur (P_load_row rfl rfl (by assumption) rfl rfl ty3) rfl ?_
    refine Ex.pur (P_move rfl) rfl ?_
    refine Ex.pur (P_eql rfl rfl) rfl ?_
    refine Ex.nil ?_
    refine X.cond rfl (fun hc2 => ?_) (fun hc2 => ?_)
    · try simp only [decide_eq_true_eq, decide_eq_false_iff_not, Bool.not_eq_true', Bool.not_eq_false', Bool.and_eq_true, Bool.or_eq_true, Bool.and_eq_false_iff, Bool.or_eq_false_iff, Int.not_lt, Int.not_le, Decidable.not_not] at hc2
      refine X.seq ?_
      refine X.region ?_
      refine Ex.pur (P_assign rfl) rfl ?_
      refine Ex.nil ?_
      refine X.ret ?_
      refine RetQ.ret (.one (.tmp rfl (LeV.eq ?_)))
      all_goals (congr 1; exact (decide_eq_true (by rw [← hc2]; exact List.mem_of_getElem? hv)).symm)
    try simp only [decide_eq_true_eq, decide_eq_false_iff_not, Bool.not_eq_true', Bool.not_eq_false', Bool.and_eq_true, Bool.or_eq_true, Bool.and_eq_false_iff, Bool.or_eq_false_iff, Int.not_lt, Int.not_le, Decidable.not_not] at hc2
    refine X.skip ?_
    refine X.region ?_
    refine Ex.pur (P_move rfl) rfl ?_
    refine Ex.pur (P_add rfl rfl (IntWalk.i64_in _ (by omega))) rfl ?_
    refine Ex.pur (P_assign rfl) rfl ?_
    refine Ex.nil ?_
    refine ⟨k + 1, Imp.of (by (repeat' (first | exact True.intro | (refine And.intro ⟨_, rfl, ?_⟩ ?_; (first | exact LeV.refl _ | exact LeV.any _ | exact LeB.refl _ | (refine LeV.eq ?_; simp; done) | (refine LeV.eq ?_; congr 1; omega) | (refine LeV.eq ?_; dsimp only; congr 1; omega) | (refine LeV.eq (congrArg (AV.int _) ?_); omega) | exact LeV.nils _ | exact LeB.row (by assumption) | (refine LeB.eq ?_; congr 1; omega) | (refine LeB.eq ?_; congr 1; simp only [cond_true, cond_false]; omega)))))) (by (repeat' (first | exact True.intro | (refine And.intro ⟨_, rfl, ?_⟩ ?_; (first | exact LeV.refl _ | exact LeV.any _ | exact LeB.refl _ | (refine LeV.eq ?_; simp; done) | (refine LeV.eq ?_; congr 1; omega) | (refine LeV.eq ?_; dsimp only; congr 1; omega) | (refine LeV.eq (congrArg (AV.int _) ?_); omega) | exact LeV.nils _ | exact LeB.row (by assumption) | (refine LeB.eq ?_; congr 1; omega) | (refine LeB.eq ?_; congr 1; simp only [cond_true, cond_false]; omega)))))), ?_, ?_⟩
    · refine ⟨by omega, fun i u hi hu => ?_⟩
      rcases Nat.lt_succ_iff_lt_or_eq.1 hi with h | h
      · exact hk2 i u h hu
      · subst h; rw [hv] at hu; injection hu with hu; subst hu; exact hc2
    · omega
  · try simp only [decide_eq_true_eq, decide_eq_false_iff_not, Bool.not_eq_true', Bool.not_eq_false', Bool.and_eq_true, Bool.or_eq_true, Bool.and_eq_false_iff, Bool.or_eq_false_iff, Int.not_lt, Int.not_le, Decidable.not_not] at hc1
    refine X.exit ?_
    refine X.seq ?_
    refine X.region ?_
    refine Ex.pur (P_assign rfl) rfl ?_
    refine Ex.nil ?_
    refine X.ret ?_
    refine RetQ.ret (.one (.tmp rfl (LeV.eq ?_)))
    all_goals (congr 1; exact (decide_eq_false (mem_not fun i u hi => hk2 i u (by omega))).symm)
set_option maxHeartbeats 2000000 in
theorem C_tactuslaw09_Made (l : List Int) (hr : ∀ x, x ∈ l → -9223372036854775808 ≤ x ∧ x ≤ 9223372036854775807) : Fn Try.prog 58 [intsA l] (sgsA (mdRun l)) := by
  refine Fn.intro (ts := [(0, intsA l)]) (rv := [.tmp 2]) (n := 53) (by kernel_rfl) Try.func58 rfl Try.ntmps58 rfl rfl rfl (by simp) (fun g w d => ?_)
  refine X.seq ?_
  refine X.region ?_
  refine Ex.pur (P_assign rfl) rfl ?_
  refine Ex.nil ?_
  refine X.seq ?_
  refine X.region ?_
  refine Ex.pur (P_assign rfl) rfl ?_
  refine Ex.nil ?_
  refine X.seq ?_
  refine X.seq ?_
  refine X.imp (Imp.mkrow sgE 64 17 3 3 rfl rfl) ?_
  refine X.region ?_
  refine Ex.pur (P_assign rfl) rfl ?_
  refine Ex.nil ?_
  refine X.block ?_
  refine X.loop (ι := Nat) (fun (k : Nat) => ⟨[(0, intsA l), (3, .own 3), (4, iv (k : Int))], [(3, .row sgE (mdK l k) 64 17)]⟩) (fun (k : Nat) => k ≤ l.length ∧ k ≤ 20) (fun (k : Nat) => 20 - k) 0 ?_ ?_ (fun k hk => ?_)
  · exact Imp.of (by (repeat' (first | exact True.intro | (refine And.intro ⟨_, rfl, ?_⟩ ?_; (first | exact LeV.refl _ | exact LeV.any _ | exact LeB.refl _ | (refine LeV.eq ?_; simp; done) | (refine LeV.eq ?_; congr 1; omega) | (refine LeV.eq ?_; dsimp only; congr 1; omega) | (refine LeV.eq (congrArg (AV.int _) ?_); omega) | exact LeV.nils _ | exact LeB.row (by assumption) | (refine LeB.eq ?_; congr 1; omega) | (refine LeB.eq ?_; congr 1; simp only [cond_true, cond_false]; omega)))))) (by (repeat' (first | exact True.intro | (refine And.intro ⟨_, rfl, ?_⟩ ?_; (first | exact LeV.refl _ | exact LeV.any _ | exact LeB.refl _ | (refine LeV.eq ?_; simp; done) | (refine LeV.eq ?_; congr 1; omega) | (refine LeV.eq ?_; dsimp only; congr 1; omega) | (refine LeV.eq (congrArg (AV.int _) ?_); omega) | exact LeV.nils _ | exact LeB.row (by assumption) | (refine LeB.eq ?_; congr 1; omega) | (refine LeB.eq ?_; congr 1; simp only [cond_true, cond_false]; omega))))))
  · first | trivial | omega | (refine ⟨?_, ?_⟩ <;> omega)
  obtain ⟨hk1, hk2⟩ := hk
  refine X.seq ?_
  refine X.seq ?_
  refine X.region ?_
  refine Ex.pur (P_move rfl) rfl ?_
  refine Ex.pur (P_move rfl) rfl ?_
  first
    | refine Ex.pur (P_len_sl rfl sl29) rfl ?_
    | refine Ex.pur (P_len_own rfl rfl sl29) rfl ?_
    | refine Ex.pur (P_len_nils rfl sl29) rfl ?_
  refine Ex.pur (P_lss rfl rfl) rfl ?_
  refine Ex.pur (P_move rfl) rfl ?_
  refine Ex.gstart (t := 11) true rfl ?_
  refine ExG.step rfl rfl rfl (fun hg => Pur.stepA (P_move rfl)) rfl ?_
  refine ExG.step rfl rfl rfl (fun hg => Pur.stepA (P_lss rfl rfl)) rfl ?_
  refine ExG.done ?_
  first
    | refine Ex.pur (P_and rfl rfl) rfl ?_
    | refine Ex.pur (P_or rfl rfl) rfl ?_
    | (refine Ex.pur (P_pick_true rfl ?_ rfl) rfl ?_; iterate 1 (· first | assumption | rfl | omega | (simp; done) | (simp; omega) | (simp_all; done)))
    | (refine Ex.pur (P_pick_false rfl ?_ rfl) rfl ?_; iterate 1 (· first | assumption | rfl | omega | (simp; done) | (simp; omega) | (simp_all; done)))
  refine Ex.nil ?_
  refine X.cond rfl (fun hc1 => ?_) (fun hc1 => ?_)
  · try simp only [decide_eq_true_eq, decide_eq_false_iff_not, Bool.not_eq_true', Bool.not_eq_false', Bool.and_eq_true, Bool.or_eq_true, Bool.and_eq_false_iff, Bool.or_eq_false_iff, Int.not_lt, Int.not_le, Decidable.not_not] at hc1
    obtain ⟨x, hx⟩ : ∃ x, l[k]? = some x := ⟨_, List.getElem?_eq_getElem (by omega)⟩
    have hx2 : l[(k : Int).toNat]? = some x := by simpa using hx
    have hxr := hr x (List.mem_of_getElem? hx)
    have hst := md_step hx
    have hml := md_len l k
    have hm60 : 0 ≤ x % 60 ∧ x % 60 < 60 := by omega
    refine X.skip ?_
    refine X.seq ?_
    refine X.block ?_
    refine X.seq ?_
    refine X.region ?_
    refine Ex.pur (P_move rfl) rfl ?_
    refine Ex.pur (P_move rfl) rfl ?_
    first
      | refine Ex.pur (P_index_sl rfl rfl sl29 ty3 (fun _ => rfl) (by omega) (by assumption)) rfl ?_
      | refine Ex.pur (P_index_own rfl rfl rfl sl29 ty3 (by omega) (by omega)) rfl ?_
    first
      | refine Ex.pur (P_load_box rfl rfl rfl ty3) rfl ?_
      | refine Ex.pur (P_load_ept rfl rfl rfl ty3) rfl ?_
      | refine Ex.pur (P_load_row rfl rfl (by assumption) rfl rfl ty3) rfl ?_
    refine Ex.call rfl rfl rfl (C_tactuskit_Mod x 60 hxr (by omega)) rfl ?_
    refine Ex.pur (P_assign rfl) rfl ?_
    refine Ex.nil ?_
    refine X.seq ?_
    refine X.region ?_
    refine Ex.pur (P_move rfl) rfl ?_
    first
      | refine Ex.pur (P_rem' rfl rfl (by omega) (by omega)) rfl ?_
      | refine Ex.pur (P_rem rfl rfl (by omega)) rfl ?_
    refine Ex.pur (P_add rfl rfl (IntWalk.i64_in _ (by omega))) rfl ?_
    refine Ex.call rfl rfl rfl (C_tactuslaw09_note _) rfl ?_
    refine Ex.stepA (A_alloc (k := 6) zc64) rfl rfl ?_
    refine Ex.stepM (M_store_agg rfl rfl rfl rfl ty64 rfl (leB rfl)) ?_
    refine Ex.nil ?_
    refine X.seq ?_
    refine X.region ?_
    refine Ex.pur (P_move rfl) rfl ?_
    first
      | refine Ex.pur (P_rem' rfl rfl (by omega) (by omega)) rfl ?_
      | refine Ex.pur (P_rem rfl rfl (by omega)) rfl ?_
    refine Ex.pur (P_eql rfl rfl) rfl ?_
    first
      | refine Ex.pur (P_fieldAddr_ptr rfl fo64_4) rfl ?_
      | refine Ex.pur (P_fieldAddr_ept rfl fo64_4) rfl ?_
    first
      | refine Ex.stepM (M_store rfl rfl rfl rfl ty4 (ltB rfl)) ?_
      | (refine Ex.stepM (M_store_row _ rfl rfl (fun _ => rfl) (by decide) ?_ rfl rfl rfl rfl rfl ty4) ?_; iterate 1 (· first | assumption | rfl | omega | (simp; done) | (simp; omega) | (simp_all; done)))
    refine Ex.nil ?_
    refine X.seq ?_
    refine X.seq ?_
    refine X.region ?_
    refine Ex.pur (P_move rfl) rfl ?_
    first
      | refine Ex.pur (P_rem' rfl rfl (by omega) (by omega)) rfl ?_
      | refine Ex.pur (P_rem rfl rfl (by omega)) rfl ?_
    refine Ex.pur (P_eql rfl rfl) rfl ?_
    refine Ex.nil ?_
    refine X.cond rfl (fun hc2 => ?_) (fun hc2 => ?_)
    · try simp only [decide_eq_true_eq, decide_eq_false_iff_not, Bool.not_eq_true', Bool.not_eq_false', Bool.and_eq_true, Bool.or_eq_true, Bool.and_eq_false_iff, Bool.or_eq_false_iff, Int.not_lt, Int.not_le, Decidable.not_not] at hc2
      refine X.region ?_
      refine Ex.pur (P_move rfl) rfl ?_
      first
        | refine Ex.pur (P_rem' rfl rfl (by omega) (by omega)) rfl ?_
        | refine Ex.pur (P_rem rfl rfl (by omega)) rfl ?_
      refine Ex.pur (P_add rfl rfl (IntWalk.i64_in _ (by omega))) rfl ?_
      refine Ex.call rfl rfl rfl (C_tactuslaw09_rest _) rfl ?_
      refine Ex.stepM (M_store_agg rfl rfl rfl rfl ty64 rfl (leB rfl)) ?_
      refine Ex.nil ?_
      refine X.seq ?_
      refine X.region ?_
      refine Ex.pur (P_move rfl) rfl ?_
      first
        | refine Ex.pur (P_load_box_all rfl rfl rfl rfl ty64) rfl ?_
        | refine Ex.pur (P_load_ept_all rfl rfl rfl ty64) rfl ?_
        | refine Ex.pur (P_load_ept_part rfl rfl rfl rfl ty64) rfl ?_
        | refine Ex.pur (P_load_box_part rfl rfl rfl rfl ty64) rfl ?_
      refine Ex.stepA (A_buildSlice (k := 39) (enc := sgE) (l := [sgRest (2 + x % 60 % 4)]) sl41 ty64 ze64 (by decide) rfl rfl rfl rfl (by decide) (by decide) (fun _ => rfl) rfl) rfl rfl ?_
      first
        | (refine Ex.stepM (M_append_own rfl rfl rfl rfl sl41 ti64 (by decide) (by decide) (fun _ => rfl) (fun _ => rfl) ?_ rfl) ?_; iterate 1 (· first | assumption | rfl | omega | (simp; done) | (simp; omega) | (simp_all; done)))
        | (refine Ex.stepM (M_append_sl rfl rfl rfl sl41 ti64 (by decide) (by decide) (fun _ => rfl) (fun _ => rfl) ?_ rfl) ?_; iterate 1 (· first | assumption | rfl | omega | (simp; done) | (simp; omega) | (simp_all; done)))
      refine Ex.pur (P_assign rfl) rfl ?_
      refine Ex.nil ?_
      refine X.seq ?_
      refine X.region ?_
      refine Ex.pur (P_move rfl) rfl ?_
      refine Ex.pur (P_geq rfl rfl) rfl ?_
      refine Ex.pur (P_move rfl) rfl ?_
      refine Ex.gstart (t := 43) true rfl ?_
      first
        | refine ExG.step rfl rfl rfl (fun hg => Pur.stepA (P_fieldAddr_ptr rfl fo64_0)) rfl ?_
        | refine ExG.step rfl rfl rfl (fun hg => Pur.stepA (P_fieldAddr_ept rfl fo64_0)) rfl ?_
      first
        | refine ExG.step rfl rfl rfl (fun hg => Pur.stepA (P_load_box rfl rfl rfl ty3)) rfl ?_
        | refine ExG.step rfl rfl rfl (fun hg => Pur.stepA (P_load_ept rfl rfl rfl ty3)) rfl ?_
        | refine ExG.step rfl rfl rfl (fun hg => Pur.stepA (P_load_row rfl rfl (by assumption) rfl rfl ty3)) rfl ?_
      refine ExG.step rfl rfl rfl (fun hg => Pur.stepA (P_eql rfl rfl)) rfl ?_
      refine ExG.done ?_
      first
        | refine Ex.pur (P_and rfl rfl) rfl ?_
        | refine Ex.pur (P_or rfl rfl) rfl ?_
        | (refine Ex.pur (P_pick_true rfl ?_ rfl) rfl ?_; iterate 1 (· first | assumption | rfl | omega | (simp; done) | (simp; omega) | (simp_all; done)))
        | (refine Ex.pur (P_pick_false rfl ?_ rfl) rfl ?_; iterate 1 (· first | assumption | rfl | omega | (simp; done) | (simp; omega) | (simp_all; done)))
      refine Ex.nil ?_
      refine X.cond rfl (fun hc3 => ?_) (fun hc3 => ?_)
      · try simp only [decide_eq_true_eq, decide_eq_false_iff_not, Bool.not_eq_true', Bool.not_eq_false', Bool.and_eq_true, Bool.or_eq_true, Bool.and_eq_false_iff, Bool.or_eq_false_iff, Int.not_lt, Int.not_le, Decidable.not_not] at hc3
        have h9 : (sgRest (2 + x % 60 % 4)).Kind = 2 := rfl
        omega
      try simp only [decide_eq_true_eq, decide_eq_false_iff_not, Bool.not_eq_true', Bool.not_eq_false', Bool.and_eq_true, Bool.or_eq_true, Bool.and_eq_false_iff, Bool.or_eq_false_iff, Int.not_lt, Int.not_le, Decidable.not_not] at hc3
      have hrow2 : mdK l k ++ [sgRest (2 + x % 60 % 4)] = mdK l (k + 1) := by rw [hst]; congr 1; unfold mdS; rw [if_pos hc2]
      refine X.skip ?_
      refine X.region ?_
      refine Ex.pur (P_move rfl) rfl ?_
      refine Ex.pur (P_add rfl rfl (IntWalk.i64_in _ (by omega))) rfl ?_
      refine Ex.pur (P_assign rfl) rfl ?_
      refine Ex.nil ?_
      refine ⟨k + 1, Imp.of (by (repeat' (first | exact True.intro | (refine And.intro ⟨_, rfl, ?_⟩ ?_; (first | exact LeV.refl _ | exact LeV.any _ | exact LeB.refl _ | (refine LeV.eq ?_; simp; done) | (refine LeV.eq ?_; congr 1; omega) | (refine LeV.eq ?_; dsimp only; congr 1; omega) | (refine LeV.eq (congrArg (AV.int _) ?_); omega) | exact LeV.nils _ | exact LeB.row (by assumption) | (refine LeB.eq ?_; congr 1; omega) | (refine LeB.eq ?_; congr 1; simp only [cond_true, cond_false]; omega)))))) (by (repeat' (first | exact True.intro | (refine And.intro ⟨_, rfl, ?_⟩ ?_; (first | exact LeV.refl _ | exact LeV.any _ | exact LeB.refl _ | (refine LeV.eq ?_; simp; done) | (refine LeV.eq ?_; congr 1; omega) | (refine LeV.eq ?_; dsimp only; congr 1; omega) | (refine LeV.eq (congrArg (AV.int _) ?_); omega) | exact LeV.nils _ | exact LeB.row (by assumption) | (refine LeB.eq ?_; congr 1; omega) | (refine LeB.eq ?_; congr 1; simp only [cond_true, cond_false]; omega)))))), ?_, ?_⟩
      · first | trivial | omega | (refine ⟨?_, ?_⟩ <;> omega)
      · omega
    · try simp only [decide_eq_true_eq, decide_eq_false_iff_not, Bool.not_eq_true', Bool.not_eq_false', Bool.and_eq_true, Bool.or_eq_true, Bool.and_eq_false_iff, Bool.or_eq_false_iff, Int.not_lt, Int.not_le, Decidable.not_not] at hc2
      refine X.skip ?_
      refine X.seq ?_
      refine X.region ?_
      refine Ex.pur (P_move rfl) rfl ?_
      first
        | refine Ex.pur (P_load_box_all rfl rfl rfl rfl ty64) rfl ?_
        | refine Ex.pur (P_load_ept_all rfl rfl rfl ty64) rfl ?_
        | refine Ex.pur (P_load_ept_part rfl rfl rfl rfl ty64) rfl ?_
        | refine Ex.pur (P_load_box_part rfl rfl rfl rfl ty64) rfl ?_
      refine Ex.stepA (A_buildSlice (k := 39) (enc := sgE) (l := [⟨1, 2 + x % 60 % 4, 0, 0, decide (x % 60 % 7 = 3), 0, false, false, ⟨0, 0, 0, 0⟩, false, 0, 0, 0, 0⟩]) sl41 ty64 ze64 (by decide) rfl rfl rfl rfl (by decide) (by decide) (fun _ => rfl) rfl) rfl rfl ?_
      first
        | (refine Ex.stepM (M_append_own rfl rfl rfl rfl sl41 ti64 (by decide) (by decide) (fun _ => rfl) (fun _ => rfl) ?_ rfl) ?_; iterate 1 (· first | assumption | rfl | omega | (simp; done) | (simp; omega) | (simp_all; done)))
        | (refine Ex.stepM (M_append_sl rfl rfl rfl sl41 ti64 (by decide) (by decide) (fun _ => rfl) (fun _ => rfl) ?_ rfl) ?_; iterate 1 (· first | assumption | rfl | omega | (simp; done) | (simp; omega) | (simp_all; done)))
      refine Ex.pur (P_assign rfl) rfl ?_
      refine Ex.nil ?_
      refine X.seq ?_
      refine X.region ?_
      refine Ex.pur (P_move rfl) rfl ?_
      refine Ex.pur (P_geq rfl rfl) rfl ?_
      refine Ex.pur (P_move rfl) rfl ?_
      refine Ex.gstart (t := 43) true rfl ?_
      first
        | refine ExG.step rfl rfl rfl (fun hg => Pur.stepA (P_fieldAddr_ptr rfl fo64_0)) rfl ?_
        | refine ExG.step rfl rfl rfl (fun hg => Pur.stepA (P_fieldAddr_ept rfl fo64_0)) rfl ?_
      first
        | refine ExG.step rfl rfl rfl (fun hg => Pur.stepA (P_load_box rfl rfl rfl ty3)) rfl ?_
        | refine ExG.step rfl rfl rfl (fun hg => Pur.stepA (P_load_ept rfl rfl rfl ty3)) rfl ?_
        | refine ExG.step rfl rfl rfl (fun hg => Pur.stepA (P_load_row rfl rfl (by assumption) rfl rfl ty3)) rfl ?_
      refine ExG.step rfl rfl rfl (fun hg => Pur.stepA (P_eql rfl rfl)) rfl ?_
      refine ExG.done ?_
      first
        | refine Ex.pur (P_and rfl rfl) rfl ?_
        | refine Ex.pur (P_or rfl rfl) rfl ?_
        | (refine Ex.pur (P_pick_true rfl ?_ rfl) rfl ?_; iterate 1 (· first | assumption | rfl | omega | (simp; done) | (simp; omega) | (simp_all; done)))
        | (refine Ex.pur (P_pick_false rfl ?_ rfl) rfl ?_; iterate 1 (· first | assumption | rfl | omega | (simp; done) | (simp; omega) | (simp_all; done)))
      refine Ex.nil ?_
      refine X.cond rfl (fun hc4 => ?_) (fun hc4 => ?_)
      · try simp only [decide_eq_true_eq, decide_eq_false_iff_not, Bool.not_eq_true', Bool.not_eq_false', Bool.and_eq_true, Bool.or_eq_true, Bool.and_eq_false_iff, Bool.or_eq_false_iff, Int.not_lt, Int.not_le, Decidable.not_not] at hc4
        have hrow2 : (mdK l k ++ [⟨1, 2 + x % 60 % 4, 0, 0, decide (x % 60 % 7 = 3), 0, false, false, ⟨0, 0, 0, 0⟩, false, 0, 0, 0, 0⟩]) ++ [sgDot] = mdK l (k + 1) := by rw [hst, List.append_assoc]; congr 1; unfold mdS; rw [if_neg hc2, if_pos (by omega)]; rfl
        refine X.region ?_
        refine Ex.pur (P_move rfl) rfl ?_
        refine Ex.call rfl rfl rfl C_tactuslaw09_point rfl ?_
        refine Ex.stepA (A_buildSlice (k := 50) (enc := sgE) (l := [sgDot]) sl41 ty64 ze64 (by decide) rfl rfl rfl rfl (by decide) (by decide) (fun _ => rfl) rfl) rfl rfl ?_
        first
          | (refine Ex.stepM (M_append_own rfl rfl rfl rfl sl41 ti64 (by decide) (by decide) (fun _ => rfl) (fun _ => rfl) ?_ rfl) ?_; iterate 1 (· first | assumption | rfl | omega | (simp; done) | (simp; omega) | (simp_all; done)))
          | (refine Ex.stepM (M_append_sl rfl rfl rfl sl41 ti64 (by decide) (by decide) (fun _ => rfl) (fun _ => rfl) ?_ rfl) ?_; iterate 1 (· first | assumption | rfl | omega | (simp; done) | (simp; omega) | (simp_all; done)))
        refine Ex.pur (P_assign rfl) rfl ?_
        refine Ex.nil ?_
        refine X.region ?_
        refine Ex.pur (P_move rfl) rfl ?_
        refine Ex.pur (P_add rfl rfl (IntWalk.i64_in _ (by omega))) rfl ?_
        refine Ex.pur (P_assign rfl) rfl ?_
        refine Ex.nil ?_
        refine ⟨k + 1, Imp.of (by (repeat' (first | exact True.intro | (refine And.intro ⟨_, rfl, ?_⟩ ?_; (first | exact LeV.refl _ | exact LeV.any _ | exact LeB.refl _ | (refine LeV.eq ?_; simp; done) | (refine LeV.eq ?_; congr 1; omega) | (refine LeV.eq ?_; dsimp only; congr 1; omega) | (refine LeV.eq (congrArg (AV.int _) ?_); omega) | exact LeV.nils _ | exact LeB.row (by assumption) | (refine LeB.eq ?_; congr 1; omega) | (refine LeB.eq ?_; congr 1; simp only [cond_true, cond_false]; omega)))))) (by (repeat' (first | exact True.intro | (refine And.intro ⟨_, rfl, ?_⟩ ?_; (first | exact LeV.refl _ | exact LeV.any _ | exact LeB.refl _ | (refine LeV.eq ?_; simp; done) | (refine LeV.eq ?_; congr 1; omega) | (refine LeV.eq ?_; dsimp only; congr 1; omega) | (refine LeV.eq (congrArg (AV.int _) ?_); omega) | exact LeV.nils _ | exact LeB.row (by assumption) | (refine LeB.eq ?_; congr 1; omega) | (refine LeB.eq ?_; congr 1; simp only [cond_true, cond_false]; omega)))))), ?_, ?_⟩
        · first | trivial | omega | (refine ⟨?_, ?_⟩ <;> omega)
        · omega
      · try simp only [decide_eq_true_eq, decide_eq_false_iff_not, Bool.not_eq_true', Bool.not_eq_false', Bool.and_eq_true, Bool.or_eq_true, Bool.and_eq_false_iff, Bool.or_eq_false_iff, Int.not_lt, Int.not_le, Decidable.not_not] at hc4
        have h9 : (sgNote (2 + x % 60 % 4)).Kind = 1 := rfl
        have hrow2 : mdK l k ++ [⟨1, 2 + x % 60 % 4, 0, 0, decide (x % 60 % 7 = 3), 0, false, false, ⟨0, 0, 0, 0⟩, false, 0, 0, 0, 0⟩] = mdK l (k + 1) := by rw [hst]; congr 1; unfold mdS; rw [if_neg hc2, if_neg (by omega)]; rfl
        refine X.skip ?_
        refine X.region ?_
        refine Ex.pur (P_move rfl) rfl ?_
        refine Ex.pur (P_add rfl rfl (IntWalk.i64_in _ (by omega))) rfl ?_
        refine Ex.pur (P_assign rfl) rfl ?_
        refine Ex.nil ?_
        refine ⟨k + 1, Imp.of (by (repeat' (first | exact True.intro | (refine And.intro ⟨_, rfl, ?_⟩ ?_; (first | exact LeV.refl _ | exact LeV.any _ | exact LeB.refl _ | (refine LeV.eq ?_; simp; done) | (refine LeV.eq ?_; congr 1; omega) | (refine LeV.eq ?_; dsimp only; congr 1; omega) | (refine LeV.eq (congrArg (AV.int _) ?_); omega) | exact LeV.nils _ | exact LeB.row (by assumption) | (refine LeB.eq ?_; congr 1; omega) | (refine LeB.eq ?_; congr 1; simp only [cond_true, cond_false]; omega)))))) (by (repeat' (first | exact True.intro | (refine And.intro ⟨_, rfl, ?_⟩ ?_; (first | exact LeV.refl _ | exact LeV.any _ | exact LeB.refl _ | (refine LeV.eq ?_; simp; done) | (refine LeV.eq ?_; congr 1; omega) | (refine LeV.eq ?_; dsimp only; congr 1; omega) | (refine LeV.eq (congrArg (AV.int _) ?_); omega) | exact LeV.nils _ | exact LeB.row (by assumption) | (refine LeB.eq ?_; congr 1; omega) | (refine LeB.eq ?_; congr 1; simp only [cond_true, cond_false]; omega)))))), ?_, ?_⟩
        · first | trivial | omega | (refine ⟨?_, ?_⟩ <;> omega)
        · omega
  · try simp only [decide_eq_true_eq, decide_eq_false_iff_not, Bool.not_eq_true', Bool.not_eq_false', Bool.and_eq_true, Bool.or_eq_true, Bool.and_eq_false_iff, Bool.or_eq_false_iff, Int.not_lt, Int.not_le, Decidable.not_not] at hc1
    have hfin : mdK l k = mdRun l := by
      unfold mdRun mdK
      by_cases h : k = 20
      · rw [h]
      · rw [List.take_of_length_le (show l.length ≤ k by omega), List.take_of_length_le (show l.length ≤ 20 by omega)]
    refine X.exit ?_
    refine X.seq ?_
    refine X.region ?_
    refine Ex.pur (P_move rfl) rfl ?_
    refine Ex.pur (P_assign rfl) rfl ?_
    refine Ex.nil ?_
    refine X.ret ?_
    refine RetQ.imp (Imp.freeze (k := 3) rfl) ?_
    refine RetQ.ret (.one (.tmp rfl (LeV.eq ?_)))
    all_goals (rw [← hfin]; rfl)
end Go.Rse
