/-
  Walks: the reference for dots.
-/
import Derived.Test.YteecbmgddacioaaRef9a
import Derived.Test.YteecbmgddacioaaRse21
namespace Go.Rse
open Go Go.Proofs
set_option linter.unusedVariables false
set_option linter.unusedSimpArgs false
attribute [local irreducible] Pur StepA StepM Ex X ExG Fn Imp LeV LeB FnO It YStep
theorem C_tactusref05_Above' (m : Mn) (v : Int) : Fn Try.prog 61 [mnA m, iv v] (.tup [iv (m.aV v), iv (ckMV m v)]) := C_tactusref05_Above m v
def lastV (l : List Sg) (k : Nat) : Int := match k with
  | 0 => -1
  | j + 1 => match l[j]? with | some p => if p.Kind = 3 then -1 else (j : Int) | none => -1
theorem ownV_step {L : List Int} {k : Nat} {x v : Int} (h : L[k]? = some x) : ownV (L.drop k) v = if x = 0 ∨ x = v then x else ownV (L.drop (k + 1)) v := by
  have hk : k < L.length := (List.getElem?_eq_some_iff.1 h).1
  rw [List.drop_eq_getElem_cons hk]
  have : L[k] = x := (List.getElem?_eq_some_iff.1 h).2
  rw [this]; rfl
theorem mngR_len (m : Mn) (s : Sg) : 1 ≤ (mngR m s).length ∧ (mngR m s).length ≤ 2 := by
  unfold mngR
  repeat' split
  all_goals simp
theorem dotsK_yes {l : List Sg} {k : Nat} {s : Sg} {α : Type} (f : Int → α) (h : l[k]? = some s) (h3 : s.Kind = 3) : (dotsK l k).map f ++ [f k] = (dotsK l (k + 1)).map f := by
  simp [dotsK, h, h3]
theorem dotsK_no {l : List Sg} {k : Nat} {s : Sg} {α : Type} (f : Int → α) (h : l[k]? = some s) (h3 : ¬ s.Kind = 3) : (dotsK l k).map f = (dotsK l (k + 1)).map f := by
  simp [dotsK, h, h3]
theorem prevR {m : Mn} {l : List Sg} (h : ckR m l = 0) {k : Nat} {s : Sg} (hs : l[k]? = some s) (h3 : s.Kind = 3) : ∃ p : Sg, 0 < k ∧ l[((k : Int) - 1).toNat]? = some p ∧ prevS l k = some p ∧ p.Value ≤ 8 := by
  rw [← ckD_R] at h
  cases k with
  | zero =>
    have := (ckFrom_all (ckD_zero h).2 1 (List.getElem?_eq_some_iff.1 hs).1).2 0 s (by omega) hs
    unfold sgF at this
    rw [if_neg (by omega), if_pos h3] at this
    simp at this
  | succ j =>
    have hlt := (List.getElem?_eq_some_iff.1 hs).1
    obtain ⟨p, hj⟩ : ∃ p, l[j]? = some p := ⟨_, List.getElem?_eq_getElem (by omega)⟩
    have e : (((j + 1 : Nat) : Int) - 1).toNat = j := by omega
    exact ⟨p, by omega, by rw [e]; exact hj, by unfold prevS; rw [e]; exact hj, (prevOk h hs h3 hj).2.2.2.1⟩
theorem last_sg {m : Mn} {l : List Sg} {k : Nat} {s : Sg} (hs : l[k]? = some s) (h3 : s.Kind = 3) :
    (lastV l k < 0 ∧ sgR m l k s = 13) ∨ (∃ p : Sg, 0 ≤ lastV l k ∧ l[(lastV l k).toNat]? = some p ∧ sgR m l k s = if p.Kind = 2 ∧ m.aV p.Value = 0 then 13 else 0) := by
  cases k with
  | zero => exact .inl ⟨by simp [lastV], by unfold sgR; rw [if_neg (by omega), if_pos h3]⟩
  | succ j =>
    have hlt := (List.getElem?_eq_some_iff.1 hs).1
    obtain ⟨p, hp⟩ : ∃ p, l[j]? = some p := ⟨_, List.getElem?_eq_getElem (by omega)⟩
    by_cases hk : p.Kind = 3
    · refine .inl ⟨by simp [lastV, hp, hk], ?_⟩
      unfold sgR; rw [if_neg (by omega), if_pos h3]; simp only [hp]; rw [if_pos (.inl hk)]
    · refine .inr ⟨p, by simp [lastV, hp, hk], by simp [lastV, hp, hk], ?_⟩
      unfold sgR; rw [if_neg (by omega), if_pos h3]; simp only [hp]; simp [hk]
theorem C_tactusref09_last (l : List Sg) (k : Nat) (hk : k < l.length) (hl : l.length ≤ 4000000000) : Fn Try.prog 124 [sgsA l, iv (k : Int)] (iv (lastV l k)) := by
  obtain ⟨p, hp⟩ : ∃ p : Sg, 0 < k → l[((k : Int) - 1).toNat]? = some p := by
    by_cases h : 0 < k
    · exact ⟨l[((k : Int) - 1).toNat]'(by omega), fun _ => List.getElem?_eq_getElem (by omega)⟩
    · exact ⟨l[k], fun h2 => absurd h2 h⟩
  refine Fn.intro (ts := [(0, sgsA l), (1, iv (k : Int))]) (rv := [.tmp 4]) (n := 18) (by kernel_rfl) Try.func124 rfl Try.ntmps124 rfl rfl rfl (by simp) (fun g w d => ?_)
  refine X.seq ?_
  refine X.region ?_
  refine Ex.pur (P_assign rfl) rfl ?_
  refine Ex.nil ?_
  refine X.seq ?_
  refine X.seq ?_
  refine X.region ?_
  refine Ex.pur (P_move rfl) rfl ?_
  refine Ex.pur (P_gtr rfl rfl) rfl ?_
  refine Ex.pur (P_move rfl) rfl ?_
  refine Ex.gstart (t := 7) true rfl ?_
  refine ExG.step rfl rfl rfl (fun hg => Pur.stepA (P_move rfl)) rfl ?_
  refine ExG.step rfl rfl rfl (fun hg => Pur.stepA (P_move rfl)) rfl ?_
  refine ExG.step rfl rfl rfl (fun hg => Pur.stepA (P_sub rfl rfl (IntWalk.i64_in _ (by omega)))) rfl ?_
  refine ExG.step rfl rfl rfl (fun hg => Pur.stepA (P_index_sl rfl rfl sl41 ty64 (fun _ => rfl) (by simp at hg; omega) (hp (by simp at hg; omega)))) rfl ?_
  first
    | refine ExG.step rfl rfl rfl (fun hg => Pur.stepA (P_fieldAddr_ptr rfl fo64_0)) rfl ?_
    | refine ExG.step rfl rfl rfl (fun hg => Pur.stepA (P_fieldAddr_ept rfl fo64_0)) rfl ?_
  first
    | refine ExG.step rfl rfl rfl (fun hg => Pur.stepA (P_load_box rfl rfl rfl ty3)) rfl ?_
    | refine ExG.step rfl rfl rfl (fun hg => Pur.stepA (P_load_ept rfl rfl rfl ty3)) rfl ?_
    | refine ExG.step rfl rfl rfl (fun hg => Pur.stepA (P_load_row rfl rfl (by assumption) rfl rfl ty3)) rfl ?_
  refine ExG.step rfl rfl rfl (fun hg => Pur.stepA (P_neq rfl rfl)) rfl ?_
  refine ExG.done ?_
  first
    | refine Ex.pur (P_and rfl rfl) rfl ?_
    | refine Ex.pur (P_or rfl rfl) rfl ?_
    | (refine Ex.pur (P_pick_true rfl ?_ rfl) rfl ?_; iterate 1 (· first | assumption | rfl | omega | (simp; done) | (simp; omega) | (simp_all; done)))
    | (refine Ex.pur (P_pick_false rfl ?_ rfl) rfl ?_; iterate 1 (· first | assumption | rfl | omega | (simp; done) | (simp; omega) | (simp_all; done)))
  refine Ex.nil ?_
  refine X.cond rfl (fun hc1 => ?_) (fun hc1 => ?_)
  · try simp only [decide_eq_true_eq, decide_eq_false_iff_not, Bool.not_eq_true', Bool.not_eq_false', Bool.and_eq_true, Bool.or_eq_true, Bool.and_eq_false_iff, Bool.or_eq_false_iff, Int.not_lt, Int.not_le, Decidable.not_not] at hc1
    refine X.seq ?_
    refine X.region ?_
    refine Ex.pur (P_move rfl) rfl ?_
    refine Ex.pur (P_sub rfl rfl (IntWalk.i64_in _ (by omega))) rfl ?_
    refine Ex.pur (P_assign rfl) rfl ?_
    refine Ex.nil ?_
    refine X.ret ?_
    refine RetQ.ret (.one (.tmp rfl (LeV.eq ?_)))
    all_goals (congr 1; cases k with
      | zero => simp at hc1
      | succ j => simp at hc1 hp ⊢; simp [lastV, hp, hc1])
  try simp only [decide_eq_true_eq, decide_eq_false_iff_not, Bool.not_eq_true', Bool.not_eq_false', Bool.and_eq_true, Bool.or_eq_true, Bool.and_eq_false_iff, Bool.or_eq_false_iff, Int.not_lt, Int.not_le, Decidable.not_not] at hc1
  refine X.skip ?_
  refine X.seq ?_
  refine X.region ?_
  refine Ex.pur (P_assign rfl) rfl ?_
  refine Ex.nil ?_
  refine X.ret ?_
  refine RetQ.ret (.one (.tmp rfl (LeV.eq ?_)))
  all_goals (congr 1; cases k with
    | zero => rfl
    | succ j =>
      have h3 : p.Kind = 3 := by omega
      simp at hp; simp [lastV, hp, h3])
theorem C_tactusref09_own (l : List Int) (v : Int) (hl : l.length ≤ 4000000000) : Fn Try.prog 121 [intsA l, iv v] (iv (ownV l v)) := by
  refine Fn.intro (ts := [(0, intsA l), (1, iv v)]) (rv := [.tmp 4]) (n := 29) (by kernel_rfl) Try.func121 rfl Try.ntmps121 rfl rfl rfl (by simp) (fun g w d => ?_)
  refine X.seq ?_
  refine X.region ?_
  refine Ex.pur (P_assign rfl) rfl ?_
  refine Ex.nil ?_
  refine X.seq ?_
  refine X.seq ?_
  refine X.region ?_
  refine Ex.pur (P_assign rfl) rfl ?_
  refine Ex.nil ?_
  refine X.block ?_
  refine X.loop (ι := Nat) (fun (k : Nat) => ⟨[(0, intsA l), (1, iv v), (5, iv (k : Int))], []⟩) (fun (k : Nat) => k ≤ l.length ∧ ownV l v = ownV (l.drop k) v) (fun (k : Nat) => l.length - k) 0 ?_ ?_ (fun k hk => ?_)
  · exact Imp.of (by (repeat' (first | exact True.intro | (refine And.intro ⟨_, rfl, ?_⟩ ?_; (first | exact LeV.refl _ | exact LeV.any _ | exact LeB.refl _ | (refine LeV.eq ?_; simp; done) | (refine LeV.eq ?_; congr 1; omega) | (refine LeV.eq ?_; dsimp only; congr 1; omega) | (refine LeV.eq (congrArg (AV.int _) ?_); omega) | exact LeV.nils _ | exact LeB.row (by assumption) | (refine LeB.eq ?_; congr 1; omega) | (refine LeB.eq ?_; congr 1; simp only [cond_true, cond_false]; omega)))))) (by (repeat' (first | exact True.intro | (refine And.intro ⟨_, rfl, ?_⟩ ?_; (first | exact LeV.refl _ | exact LeV.any _ | exact LeB.refl _ | (refine LeV.eq ?_; simp; done) | (refine LeV.eq ?_; congr 1; omega) | (refine LeV.eq ?_; dsimp only; congr 1; omega) | (refine LeV.eq (congrArg (AV.int _) ?_); omega) | exact LeV.nils _ | exact LeB.row (by assumption) | (refine LeB.eq ?_; congr 1; omega) | (refine LeB.eq ?_; congr 1; simp only [cond_true, cond_false]; omega))))))
  · exact ⟨by omega, rfl⟩
  obtain ⟨hk1, hk2⟩ := hk
  refine X.seq ?_
  refine X.seq ?_
  refine X.region ?_
  refine Ex.pur (P_move rfl) rfl ?_
  refine Ex.pur (P_move rfl) rfl ?_
  first
    | refine Ex.pur (P_len_sl rfl sl29) rfl ?_
    | refine Ex.pur (P_len_own rfl rfl sl29) rfl ?_
    | refine Ex.pur (P_len_nils rfl sl29) rfl ?_
  refine Ex.pur (P_lss rfl rfl) rfl ?_
  refine Ex.nil ?_
  refine X.cond rfl (fun hc1 => ?_) (fun hc1 => ?_)
  · try simp only [decide_eq_true_eq, decide_eq_false_iff_not, Bool.not_eq_true', Bool.not_eq_false', Bool.and_eq_true, Bool.or_eq_true, Bool.and_eq_false_iff, Bool.or_eq_false_iff, Int.not_lt, Int.not_le, Decidable.not_not] at hc1
    obtain ⟨x, hx⟩ : ∃ x, l[k]? = some x := ⟨_, List.getElem?_eq_getElem (by omega)⟩
    have hx2 : l[(k : Int).toNat]? = some x := by simpa using hx
    refine X.skip ?_
    refine X.seq ?_
    refine X.block ?_
    refine X.seq ?_
    refine X.region ?_
    refine Ex.pur (P_move rfl) rfl ?_
    refine Ex.pur (P_move rfl) rfl ?_
    first
      | refine Ex.pur (P_index_sl rfl rfl sl29 ty3 (fun _ => rfl) (by omega) (by assumption)) rfl ?_
      | refine Ex.pur (P_index_own rfl rfl rfl sl29 ty3 (by omega) (by omega)) rfl ?_
    first
      | refine Ex.pur (P_load_box rfl rfl rfl ty3) rfl ?_
      | refine Ex.pur (P_load_ept rfl rfl rfl ty3) rfl ?_
      | refine Ex.pur (P_load_row rfl rfl (by assumption) rfl rfl ty3) rfl ?_
    refine Ex.pur (P_eql rfl rfl) rfl ?_
    refine Ex.pur (P_move rfl) rfl ?_
    refine Ex.gstart (t := 17) false rfl ?_
    refine ExG.step rfl rfl rfl (fun hg => Pur.stepA (P_move rfl)) rfl ?_
    refine ExG.step rfl rfl rfl (fun hg => Pur.stepA (P_move rfl)) rfl ?_
    first
      | refine ExG.step rfl rfl rfl (fun hg => Pur.stepA (P_index_sl rfl rfl sl29 ty3 (fun _ => rfl) (by omega) (by assumption))) rfl ?_
      | refine ExG.step rfl rfl rfl (fun hg => Pur.stepA (P_index_own rfl rfl rfl sl29 ty3 (by omega) (by omega))) rfl ?_
    first
      | refine ExG.step rfl rfl rfl (fun hg => Pur.stepA (P_load_box rfl rfl rfl ty3)) rfl ?_
      | refine ExG.step rfl rfl rfl (fun hg => Pur.stepA (P_load_ept rfl rfl rfl ty3)) rfl ?_
      | refine ExG.step rfl rfl rfl (fun hg => Pur.stepA (P_load_row rfl rfl (by assumption) rfl rfl ty3)) rfl ?_
    refine ExG.step rfl rfl rfl (fun hg => Pur.stepA (P_move rfl)) rfl ?_
    refine ExG.step rfl rfl rfl (fun hg => Pur.stepA (P_eql rfl rfl)) rfl ?_
    refine ExG.done ?_
    first
      | refine Ex.pur (P_and rfl rfl) rfl ?_
      | refine Ex.pur (P_or rfl rfl) rfl ?_
      | (refine Ex.pur (P_pick_true rfl ?_ rfl) rfl ?_; iterate 1 (· first | assumption | rfl | omega | (simp; done) | (simp; omega) | (simp_all; done)))
      | (refine Ex.pur (P_pick_false rfl ?_ rfl) rfl ?_; iterate 1 (· first | assumption | rfl | omega | (simp; done) | (simp; omega) | (simp_all; done)))
    refine Ex.nil ?_
    refine X.cond rfl (fun hc2 => ?_) (fun hc2 => ?_)
    · try simp only [decide_eq_true_eq, decide_eq_false_iff_not, Bool.not_eq_true', Bool.not_eq_false', Bool.and_eq_true, Bool.or_eq_true, Bool.and_eq_false_iff, Bool.or_eq_false_iff, Int.not_lt, Int.not_le, Decidable.not_not] at hc2
      refine X.seq ?_
      refine X.region ?_
      refine Ex.pur (P_move rfl) rfl ?_
      refine Ex.pur (P_move rfl) rfl ?_
      first
        | refine Ex.pur (P_index_sl rfl rfl sl29 ty3 (fun _ => rfl) (by omega) (by assumption)) rfl ?_
        | refine Ex.pur (P_index_own rfl rfl rfl sl29 ty3 (by omega) (by omega)) rfl ?_
      first
        | refine Ex.pur (P_load_box rfl rfl rfl ty3) rfl ?_
        | refine Ex.pur (P_load_ept rfl rfl rfl ty3) rfl ?_
        | refine Ex.pur (P_load_row rfl rfl (by assumption) rfl rfl ty3) rfl ?_
      refine Ex.pur (P_assign rfl) rfl ?_
      refine Ex.nil ?_
      refine X.ret ?_
      refine RetQ.ret (.one (.tmp rfl (LeV.eq ?_)))
      all_goals (congr 1; rw [hk2, ownV_step hx, if_pos (by simpa using hc2)])
    try simp only [decide_eq_true_eq, decide_eq_false_iff_not, Bool.not_eq_true', Bool.not_eq_false', Bool.and_eq_true, Bool.or_eq_true, Bool.and_eq_false_iff, Bool.or_eq_false_iff, Int.not_lt, Int.not_le, Decidable.not_not] at hc2
    refine X.skip ?_
    refine X.region ?_
    refine Ex.pur (P_move rfl) rfl ?_
    refine Ex.pur (P_add rfl rfl (IntWalk.i64_in _ (by omega))) rfl ?_
    refine Ex.pur (P_assign rfl) rfl ?_
    refine Ex.nil ?_
    refine ⟨k + 1, Imp.of (by (repeat' (first | exact True.intro | (refine And.intro ⟨_, rfl, ?_⟩ ?_; (first | exact LeV.refl _ | exact LeV.any _ | exact LeB.refl _ | (refine LeV.eq ?_; simp; done) | (refine LeV.eq ?_; congr 1; omega) | (refine LeV.eq ?_; dsimp only; congr 1; omega) | (refine LeV.eq (congrArg (AV.int _) ?_); omega) | exact LeV.nils _ | exact LeB.row (by assumption) | (refine LeB.eq ?_; congr 1; omega) | (refine LeB.eq ?_; congr 1; simp only [cond_true, cond_false]; omega)))))) (by (repeat' (first | exact True.intro | (refine And.intro ⟨_, rfl, ?_⟩ ?_; (first | exact LeV.refl _ | exact LeV.any _ | exact LeB.refl _ | (refine LeV.eq ?_; simp; done) | (refine LeV.eq ?_; congr 1; omega) | (refine LeV.eq ?_; dsimp only; congr 1; omega) | (refine LeV.eq (congrArg (AV.int _) ?_); omega) | exact LeV.nils _ | exact LeB.row (by assumption) | (refine LeB.eq ?_; congr 1; omega) | (refine LeB.eq ?_; congr 1; simp only [cond_true, cond_false]; omega)))))), ?_, ?_⟩
    · exact ⟨by omega, by rw [hk2, ownV_step hx, if_neg (by simpa using hc2)]⟩
    · omega
  · try simp only [decide_eq_true_eq, decide_eq_false_iff_not, Bool.not_eq_true', Bool.not_eq_false', Bool.and_eq_true, Bool.or_eq_true, Bool.and_eq_false_iff, Bool.or_eq_false_iff, Int.not_lt, Int.not_le, Decidable.not_not] at hc1
    refine X.exit ?_
    refine X.seq ?_
    refine X.region ?_
    refine Ex.pur (P_assign rfl) rfl ?_
    refine Ex.nil ?_
    refine X.ret ?_
    refine RetQ.ret (.one (.tmp rfl (LeV.eq ?_)))
    all_goals (congr 1; rw [hk2, List.drop_of_length_le (by omega)]; rfl)
set_option maxHeartbeats 2000000 in
theorem C_tactusref09_Check (m : Mn) (l : List Sg) (hl : l.length ≤ 60) : Fn Try.prog 41 [mnA m, sgsA l] (iv (ckR m l)) := by
  refine Fn.intro (ts := [(0, mnA m), (1, sgsA l)]) (rv := [.tmp 4]) (n := 70) (by kernel_rfl) Try.func41 rfl Try.ntmps41 rfl rfl rfl (by simp) (fun g w d => ?_)
  refine X.seq ?_
  refine X.region ?_
  refine Ex.stepA (A_box_agg (k := 2) rfl rfl) rfl rfl ?_
  refine Ex.pur (P_assign rfl) rfl ?_
  refine Ex.nil ?_
  refine X.seq ?_
  refine X.region ?_
  first
    | refine Ex.pur (P_load_box_all rfl rfl rfl rfl ty23) rfl ?_
    | refine Ex.pur (P_load_ept_all rfl rfl rfl ty23) rfl ?_
    | refine Ex.pur (P_load_ept_part rfl rfl rfl rfl ty23) rfl ?_
    | refine Ex.pur (P_load_box_part rfl rfl rfl rfl ty23) rfl ?_
  refine Ex.call rfl rfl rfl (C_tactusref05_Check m) rfl ?_
  refine Ex.pur (P_assign rfl) rfl ?_
  refine Ex.nil ?_
  refine X.seq ?_
  refine X.seq ?_
  refine X.region ?_
  refine Ex.pur (P_move rfl) rfl ?_
  refine Ex.pur (P_neq rfl rfl) rfl ?_
  refine Ex.nil ?_
  refine X.cond rfl (fun hc1 => ?_) (fun hc1 => ?_)
  · try simp only [decide_eq_true_eq, decide_eq_false_iff_not, Bool.not_eq_true', Bool.not_eq_false', Bool.and_eq_true, Bool.or_eq_true, Bool.and_eq_false_iff, Bool.or_eq_false_iff, Int.not_lt, Int.not_le, Decidable.not_not] at hc1
    refine X.seq ?_
    refine X.region ?_
    refine Ex.pur (P_move rfl) rfl ?_
    refine Ex.pur (P_assign rfl) rfl ?_
    refine Ex.nil ?_
    refine X.ret ?_
    refine RetQ.ret (.one (.tmp rfl (LeV.eq ?_)))
    all_goals (first | rfl | (unfold ckR; rw [if_neg hc1]))
  try simp only [decide_eq_true_eq, decide_eq_false_iff_not, Bool.not_eq_true', Bool.not_eq_false', Bool.and_eq_true, Bool.or_eq_true, Bool.and_eq_false_iff, Bool.or_eq_false_iff, Int.not_lt, Int.not_le, Decidable.not_not] at hc1
  refine X.skip ?_
  refine X.seq ?_
  refine X.seq ?_
  refine X.region ?_
  refine Ex.pur (P_assign rfl) rfl ?_
  refine Ex.nil ?_
  refine X.block ?_
  refine X.loop (ι := Nat) (fun (k : Nat) => ⟨[(1, sgsA l), (2, .ptr 2 0 0 0), (6, iv (k : Int))], [(2, .box (mnE m) 23)]⟩) (fun (k : Nat) => k ≤ l.length ∧ ckR m l = ckFromR m l k (l.drop k)) (fun (k : Nat) => l.length - k) 0 ?_ ?_ (fun k hk => ?_)
  · exact Imp.of (by (repeat' (first | exact True.intro | (refine And.intro ⟨_, rfl, ?_⟩ ?_; (first | exact LeV.refl _ | exact LeV.any _ | exact LeB.refl _ | (refine LeV.eq ?_; simp; done) | (refine LeV.eq ?_; congr 1; omega) | (refine LeV.eq ?_; dsimp only; congr 1; omega) | (refine LeV.eq (congrArg (AV.int _) ?_); omega) | exact LeV.nils _ | exact LeB.row (by assumption) | (refine LeB.eq ?_; congr 1; omega) | (refine LeB.eq ?_; congr 1; simp only [cond_true, cond_false]; omega)))))) (by (repeat' (first | exact True.intro | (refine And.intro ⟨_, rfl, ?_⟩ ?_; (first | exact LeV.refl _ | exact LeV.any _ | exact LeB.refl _ | (refine LeV.eq ?_; simp; done) | (refine LeV.eq ?_; congr 1; omega) | (refine LeV.eq ?_; dsimp only; congr 1; omega) | (refine LeV.eq (congrArg (AV.int _) ?_); omega) | exact LeV.nils _ | exact LeB.row (by assumption) | (refine LeB.eq ?_; congr 1; omega) | (refine LeB.eq ?_; congr 1; simp only [cond_true, cond_false]; omega))))))
  · exact ⟨by omega, by unfold ckR; rw [if_pos hc1]; rfl⟩
  obtain ⟨hk1, hk2⟩ := hk
  refine X.seq ?_
  refine X.seq ?_
  refine X.region ?_
  refine Ex.pur (P_move rfl) rfl ?_
  refine Ex.pur (P_move rfl) rfl ?_
  first
    | refine Ex.pur (P_len_sl rfl sl41) rfl ?_
    | refine Ex.pur (P_len_own rfl rfl sl41) rfl ?_
    | refine Ex.pur (P_len_nils rfl sl41) rfl ?_
  refine Ex.pur (P_lss rfl rfl) rfl ?_
  refine Ex.nil ?_
  refine X.cond rfl (fun hc2 => ?_) (fun hc2 => ?_)
  · try simp only [decide_eq_true_eq, decide_eq_false_iff_not, Bool.not_eq_true', Bool.not_eq_false', Bool.and_eq_true, Bool.or_eq_true, Bool.and_eq_false_iff, Bool.or_eq_false_iff, Int.not_lt, Int.not_le, Decidable.not_not] at hc2
    obtain ⟨s, hs⟩ : ∃ s, l[k]? = some s := ⟨_, List.getElem?_eq_getElem (by omega)⟩
    have hs2 : l[(k : Int).toNat]? = some s := by simpa using hs
    refine X.skip ?_
    refine X.seq ?_
    refine X.block ?_
    refine X.seq ?_
    refine X.region ?_
    refine Ex.pur (P_move rfl) rfl ?_
    refine Ex.pur (P_move rfl) rfl ?_
    first
      | refine Ex.pur (P_index_sl rfl rfl sl41 ty64 (fun _ => rfl) (by omega) (by assumption)) rfl ?_
      | refine Ex.pur (P_index_own rfl rfl rfl sl41 ty64 (by omega) (by omega)) rfl ?_
    first
      | refine Ex.pur (P_fieldAddr_ptr rfl fo64_0) rfl ?_
      | refine Ex.pur (P_fieldAddr_ept rfl fo64_0) rfl ?_
    first
      | refine Ex.pur (P_load_box rfl rfl rfl ty3) rfl ?_
      | refine Ex.pur (P_load_ept rfl rfl rfl ty3) rfl ?_
      | refine Ex.pur (P_load_row rfl rfl (by assumption) rfl rfl ty3) rfl ?_
    refine Ex.nil ?_
    refine X.block ?_
    refine X.seq ?_
    refine X.seq ?_
    refine X.region ?_
    refine Ex.pur (P_eql rfl rfl) rfl ?_
    refine Ex.pur (P_assign rfl) rfl ?_
    refine Ex.nil ?_
    refine X.cond rfl (fun hc3 => ?_) (fun hc3 => ?_)
    · try simp only [decide_eq_true_eq, decide_eq_false_iff_not, Bool.not_eq_true', Bool.not_eq_false', Bool.and_eq_true, Bool.or_eq_true, Bool.and_eq_false_iff, Bool.or_eq_false_iff, Int.not_lt, Int.not_le, Decidable.not_not] at hc3
      refine X.skip ?_
      refine X.cond rfl (fun hc4 => ?_) (fun hc4 => ?_)
      · try simp only [decide_eq_true_eq, decide_eq_false_iff_not, Bool.not_eq_true', Bool.not_eq_false', Bool.and_eq_true, Bool.or_eq_true, Bool.and_eq_false_iff, Bool.or_eq_false_iff, Int.not_lt, Int.not_le, Decidable.not_not] at hc4
        refine X.seq ?_
        refine X.region ?_
        refine Ex.pur (P_move rfl) rfl ?_
        refine Ex.pur (P_move rfl) rfl ?_
        first
          | refine Ex.pur (P_index_sl rfl rfl sl41 ty64 (fun _ => rfl) (by omega) (by assumption)) rfl ?_
          | refine Ex.pur (P_index_own rfl rfl rfl sl41 ty64 (by omega) (by omega)) rfl ?_
        first
          | refine Ex.pur (P_fieldAddr_ptr rfl fo64_1) rfl ?_
          | refine Ex.pur (P_fieldAddr_ept rfl fo64_1) rfl ?_
        first
          | refine Ex.pur (P_load_box rfl rfl rfl ty3) rfl ?_
          | refine Ex.pur (P_load_ept rfl rfl rfl ty3) rfl ?_
          | refine Ex.pur (P_load_row rfl rfl (by assumption) rfl rfl ty3) rfl ?_
        refine Ex.pur (P_lss rfl rfl) rfl ?_
        refine Ex.pur (P_move rfl) rfl ?_
        refine Ex.gstart (t := 35) false rfl ?_
        refine ExG.step rfl rfl rfl (fun hg => Pur.stepA (P_move rfl)) rfl ?_
        refine ExG.step rfl rfl rfl (fun hg => Pur.stepA (P_move rfl)) rfl ?_
        first
          | refine ExG.step rfl rfl rfl (fun hg => Pur.stepA (P_index_sl rfl rfl sl41 ty64 (fun _ => rfl) (by omega) (by assumption))) rfl ?_
          | refine ExG.step rfl rfl rfl (fun hg => Pur.stepA (P_index_own rfl rfl rfl sl41 ty64 (by omega) (by omega))) rfl ?_
        first
          | refine ExG.step rfl rfl rfl (fun hg => Pur.stepA (P_fieldAddr_ptr rfl fo64_1)) rfl ?_
          | refine ExG.step rfl rfl rfl (fun hg => Pur.stepA (P_fieldAddr_ept rfl fo64_1)) rfl ?_
        first
          | refine ExG.step rfl rfl rfl (fun hg => Pur.stepA (P_load_box rfl rfl rfl ty3)) rfl ?_
          | refine ExG.step rfl rfl rfl (fun hg => Pur.stepA (P_load_ept rfl rfl rfl ty3)) rfl ?_
          | refine ExG.step rfl rfl rfl (fun hg => Pur.stepA (P_load_row rfl rfl (by assumption) rfl rfl ty3)) rfl ?_
        refine ExG.step rfl rfl rfl (fun hg => Pur.stepA (P_gtr rfl rfl)) rfl ?_
        refine ExG.done ?_
        first
          | refine Ex.pur (P_and rfl rfl) rfl ?_
          | refine Ex.pur (P_or rfl rfl) rfl ?_
          | (refine Ex.pur (P_pick_true rfl ?_ rfl) rfl ?_; iterate 1 (· first | assumption | rfl | omega | (simp; done) | (simp; omega) | (simp_all; done)))
          | (refine Ex.pur (P_pick_false rfl ?_ rfl) rfl ?_; iterate 1 (· first | assumption | rfl | omega | (simp; done) | (simp; omega) | (simp_all; done)))
        refine Ex.nil ?_
        refine X.cond rfl (fun hc5 => ?_) (fun hc5 => ?_)
        · try simp only [decide_eq_true_eq, decide_eq_false_iff_not, Bool.not_eq_true', Bool.not_eq_false', Bool.and_eq_true, Bool.or_eq_true, Bool.and_eq_false_iff, Bool.or_eq_false_iff, Int.not_lt, Int.not_le, Decidable.not_not] at hc5
          have hF : sgR m l k s = 2 := by unfold sgR; rw [if_pos (.inl hc3), if_neg (by omega)]
          refine X.seq ?_
          refine X.region ?_
          refine Ex.pur (P_assign rfl) rfl ?_
          refine Ex.nil ?_
          refine X.ret ?_
          refine RetQ.ret (.one (.tmp rfl (LeV.eq ?_)))
          all_goals (rw [hk2, ckFromR_bad hs (by rw [hF]; decide), hF])
        try simp only [decide_eq_true_eq, decide_eq_false_iff_not, Bool.not_eq_true', Bool.not_eq_false', Bool.and_eq_true, Bool.or_eq_true, Bool.and_eq_false_iff, Bool.or_eq_false_iff, Int.not_lt, Int.not_le, Decidable.not_not] at hc5
        have h0 : sgR m l k s = 0 := by unfold sgR; rw [if_pos (.inl hc3), if_pos (by omega)]
        refine X.skip ?_
        refine X.region ?_
        refine Ex.pur (P_move rfl) rfl ?_
        refine Ex.pur (P_add rfl rfl (IntWalk.i64_in _ (by omega))) rfl ?_
        refine Ex.pur (P_assign rfl) rfl ?_
        refine Ex.nil ?_
        refine ⟨k + 1, Imp.of (by (repeat' (first | exact True.intro | (refine And.intro ⟨_, rfl, ?_⟩ ?_; (first | exact LeV.refl _ | exact LeV.any _ | exact LeB.refl _ | (refine LeV.eq ?_; simp; done) | (refine LeV.eq ?_; congr 1; omega) | (refine LeV.eq ?_; dsimp only; congr 1; omega) | (refine LeV.eq (congrArg (AV.int _) ?_); omega) | exact LeV.nils _ | exact LeB.row (by assumption) | (refine LeB.eq ?_; congr 1; omega) | (refine LeB.eq ?_; congr 1; simp only [cond_true, cond_false]; omega)))))) (by (repeat' (first | exact True.intro | (refine And.intro ⟨_, rfl, ?_⟩ ?_; (first | exact LeV.refl _ | exact LeV.any _ | exact LeB.refl _ | (refine LeV.eq ?_; simp; done) | (refine LeV.eq ?_; congr 1; omega) | (refine LeV.eq ?_; dsimp only; congr 1; omega) | (refine LeV.eq (congrArg (AV.int _) ?_); omega) | exact LeV.nils _ | exact LeB.row (by assumption) | (refine LeB.eq ?_; congr 1; omega) | (refine LeB.eq ?_; congr 1; simp only [cond_true, cond_false]; omega)))))), ?_, ?_⟩
        · exact ⟨by omega, by rw [hk2, ckFromR_ok hs h0]⟩
        · omega
      · try simp only [decide_eq_true_eq, decide_eq_false_iff_not, Bool.not_eq_true', Bool.not_eq_false', Bool.and_eq_true, Bool.or_eq_true, Bool.and_eq_false_iff, Bool.or_eq_false_iff, Int.not_lt, Int.not_le, Decidable.not_not] at hc4
        exact absurd hc3 hc4
    · try simp only [decide_eq_true_eq, decide_eq_false_iff_not, Bool.not_eq_true', Bool.not_eq_false', Bool.and_eq_true, Bool.or_eq_true, Bool.and_eq_false_iff, Bool.or_eq_false_iff, Int.not_lt, Int.not_le, Decidable.not_not] at hc3
      refine X.region ?_
      refine Ex.pur (P_eql rfl rfl) rfl ?_
      refine Ex.pur (P_assign rfl) rfl ?_
      refine Ex.nil ?_
      refine X.cond rfl (fun hc6 => ?_) (fun hc6 => ?_)
      · try simp only [decide_eq_true_eq, decide_eq_false_iff_not, Bool.not_eq_true', Bool.not_eq_false', Bool.and_eq_true, Bool.or_eq_true, Bool.and_eq_false_iff, Bool.or_eq_false_iff, Int.not_lt, Int.not_le, Decidable.not_not] at hc6
        refine X.seq ?_
        refine X.region ?_
        refine Ex.pur (P_move rfl) rfl ?_
        refine Ex.pur (P_move rfl) rfl ?_
        first
          | refine Ex.pur (P_index_sl rfl rfl sl41 ty64 (fun _ => rfl) (by omega) (by assumption)) rfl ?_
          | refine Ex.pur (P_index_own rfl rfl rfl sl41 ty64 (by omega) (by omega)) rfl ?_
        first
          | refine Ex.pur (P_fieldAddr_ptr rfl fo64_1) rfl ?_
          | refine Ex.pur (P_fieldAddr_ept rfl fo64_1) rfl ?_
        first
          | refine Ex.pur (P_load_box rfl rfl rfl ty3) rfl ?_
          | refine Ex.pur (P_load_ept rfl rfl rfl ty3) rfl ?_
          | refine Ex.pur (P_load_row rfl rfl (by assumption) rfl rfl ty3) rfl ?_
        refine Ex.pur (P_lss rfl rfl) rfl ?_
        refine Ex.pur (P_move rfl) rfl ?_
        refine Ex.gstart (t := 35) false rfl ?_
        refine ExG.step rfl rfl rfl (fun hg => Pur.stepA (P_move rfl)) rfl ?_
        refine ExG.step rfl rfl rfl (fun hg => Pur.stepA (P_move rfl)) rfl ?_
        first
          | refine ExG.step rfl rfl rfl (fun hg => Pur.stepA (P_index_sl rfl rfl sl41 ty64 (fun _ => rfl) (by omega) (by assumption))) rfl ?_
          | refine ExG.step rfl rfl rfl (fun hg => Pur.stepA (P_index_own rfl rfl rfl sl41 ty64 (by omega) (by omega))) rfl ?_
        first
          | refine ExG.step rfl rfl rfl (fun hg => Pur.stepA (P_fieldAddr_ptr rfl fo64_1)) rfl ?_
          | refine ExG.step rfl rfl rfl (fun hg => Pur.stepA (P_fieldAddr_ept rfl fo64_1)) rfl ?_
        first
          | refine ExG.step rfl rfl rfl (fun hg => Pur.stepA (P_load_box rfl rfl rfl ty3)) rfl ?_
          | refine ExG.step rfl rfl rfl (fun hg => Pur.stepA (P_load_ept rfl rfl rfl ty3)) rfl ?_
          | refine ExG.step rfl rfl rfl (fun hg => Pur.stepA (P_load_row rfl rfl (by assumption) rfl rfl ty3)) rfl ?_
        refine ExG.step rfl rfl rfl (fun hg => Pur.stepA (P_gtr rfl rfl)) rfl ?_
        refine ExG.done ?_
        first
          | refine Ex.pur (P_and rfl rfl) rfl ?_
          | refine Ex.pur (P_or rfl rfl) rfl ?_
          | (refine Ex.pur (P_pick_true rfl ?_ rfl) rfl ?_; iterate 1 (· first | assumption | rfl | omega | (simp; done) | (simp; omega) | (simp_all; done)))
          | (refine Ex.pur (P_pick_false rfl ?_ rfl) rfl ?_; iterate 1 (· first | assumption | rfl | omega | (simp; done) | (simp; omega) | (simp_all; done)))
        refine Ex.nil ?_
        refine X.cond rfl (fun hc7 => ?_) (fun hc7 => ?_)
        · try simp only [decide_eq_true_eq, decide_eq_false_iff_not, Bool.not_eq_true', Bool.not_eq_false', Bool.and_eq_true, Bool.or_eq_true, Bool.and_eq_false_iff, Bool.or_eq_false_iff, Int.not_lt, Int.not_le, Decidable.not_not] at hc7
          have hF : sgR m l k s = 2 := by unfold sgR; rw [if_pos (.inr hc6), if_neg (by omega)]
          refine X.seq ?_
          refine X.region ?_
          refine Ex.pur (P_assign rfl) rfl ?_
          refine Ex.nil ?_
          refine X.ret ?_
          refine RetQ.ret (.one (.tmp rfl (LeV.eq ?_)))
          all_goals (rw [hk2, ckFromR_bad hs (by rw [hF]; decide), hF])
        try simp only [decide_eq_true_eq, decide_eq_false_iff_not, Bool.not_eq_true', Bool.not_eq_false', Bool.and_eq_true, Bool.or_eq_true, Bool.and_eq_false_iff, Bool.or_eq_false_iff, Int.not_lt, Int.not_le, Decidable.not_not] at hc7
        have h0 : sgR m l k s = 0 := by unfold sgR; rw [if_pos (.inr hc6), if_pos (by omega)]
        refine X.skip ?_
        refine X.region ?_
        refine Ex.pur (P_move rfl) rfl ?_
        refine Ex.pur (P_add rfl rfl (IntWalk.i64_in _ (by omega))) rfl ?_
        refine Ex.pur (P_assign rfl) rfl ?_
        refine Ex.nil ?_
        refine ⟨k + 1, Imp.of (by (repeat' (first | exact True.intro | (refine And.intro ⟨_, rfl, ?_⟩ ?_; (first | exact LeV.refl _ | exact LeV.any _ | exact LeB.refl _ | (refine LeV.eq ?_; simp; done) | (refine LeV.eq ?_; congr 1; omega) | (refine LeV.eq ?_; dsimp only; congr 1; omega) | (refine LeV.eq (congrArg (AV.int _) ?_); omega) | exact LeV.nils _ | exact LeB.row (by assumption) | (refine LeB.eq ?_; congr 1; omega) | (refine LeB.eq ?_; congr 1; simp only [cond_true, cond_false]; omega)))))) (by (repeat' (first | exact True.intro | (refine And.intro ⟨_, rfl, ?_⟩ ?_; (first | exact LeV.refl _ | exact LeV.any _ | exact LeB.refl _ | (refine LeV.eq ?_; simp; done) | (refine LeV.eq ?_; congr 1; omega) | (refine LeV.eq ?_; dsimp only; congr 1; omega) | (refine LeV.eq (congrArg (AV.int _) ?_); omega) | exact LeV.nils _ | exact LeB.row (by assumption) | (refine LeB.eq ?_; congr 1; omega) | (refine LeB.eq ?_; congr 1; simp only [cond_true, cond_false]; omega)))))), ?_, ?_⟩
        · exact ⟨by omega, by rw [hk2, ckFromR_ok hs h0]⟩
        · omega
      · try simp only [decide_eq_true_eq, decide_eq_false_iff_not, Bool.not_eq_true', Bool.not_eq_false', Bool.and_eq_true, Bool.or_eq_true, Bool.and_eq_false_iff, Bool.or_eq_false_iff, Int.not_lt, Int.not_le, Decidable.not_not] at hc6
        refine X.seq ?_
        refine X.region ?_
        refine Ex.pur (P_eql rfl rfl) rfl ?_
        refine Ex.pur (P_assign rfl) rfl ?_
        refine Ex.nil ?_
        refine X.cond rfl (fun hc8 => ?_) (fun hc8 => ?_)
        · try simp only [decide_eq_true_eq, decide_eq_false_iff_not, Bool.not_eq_true', Bool.not_eq_false', Bool.and_eq_true, Bool.or_eq_true, Bool.and_eq_false_iff, Bool.or_eq_false_iff, Int.not_lt, Int.not_le, Decidable.not_not] at hc8
          have hcs := last_sg (m := m) hs hc8
          refine X.seq ?_
          refine X.region ?_
          refine Ex.pur (P_move rfl) rfl ?_
          refine Ex.pur (P_move rfl) rfl ?_
          refine Ex.call rfl rfl rfl (C_tactusref09_last l k (by omega) (by omega)) rfl ?_
          refine Ex.pur (P_assign rfl) rfl ?_
          refine Ex.nil ?_
          refine X.seq ?_
          refine X.seq ?_
          refine X.region ?_
          refine Ex.pur (P_move rfl) rfl ?_
          refine Ex.pur (P_lss rfl rfl) rfl ?_
          refine Ex.nil ?_
          refine X.cond rfl (fun hc9 => ?_) (fun hc9 => ?_)
          · try simp only [decide_eq_true_eq, decide_eq_false_iff_not, Bool.not_eq_true', Bool.not_eq_false', Bool.and_eq_true, Bool.or_eq_true, Bool.and_eq_false_iff, Bool.or_eq_false_iff, Int.not_lt, Int.not_le, Decidable.not_not] at hc9
            have hF : sgR m l k s = 13 := by
              rcases hcs with h | ⟨p, h, _⟩
              · exact h.2
              · omega
            refine X.seq ?_
            refine X.region ?_
            refine Ex.pur (P_assign rfl) rfl ?_
            refine Ex.nil ?_
            refine X.ret ?_
            refine RetQ.ret (.one (.tmp rfl (LeV.eq ?_)))
            all_goals (rw [hk2, ckFromR_bad hs (by rw [hF]; decide), hF])
          try simp only [decide_eq_true_eq, decide_eq_false_iff_not, Bool.not_eq_true', Bool.not_eq_false', Bool.and_eq_true, Bool.or_eq_true, Bool.and_eq_false_iff, Bool.or_eq_false_iff, Int.not_lt, Int.not_le, Decidable.not_not] at hc9
          obtain ⟨p, hl0, hp, hsg⟩ : ∃ p : Sg, 0 ≤ lastV l k ∧ l[(lastV l k).toNat]? = some p ∧ sgR m l k s = if p.Kind = 2 ∧ m.aV p.Value = 0 then 13 else 0 := by
            rcases hcs with h | h
            · omega
            · exact h
          refine X.skip ?_
          refine X.seq ?_
          refine X.draw [8, 9, 50, 51, 52, 53, 54, 55, 56, 57, 58, 59] mo rfl ?_
          first
            | refine Chain.step [] rfl rfl rfl (Pur.stepA (P_load_box_all rfl rfl rfl rfl ty23)) rfl ?_
            | refine Chain.step [] rfl rfl rfl (Pur.stepA (P_load_ept_all rfl rfl rfl ty23)) rfl ?_
            | refine Chain.step [] rfl rfl rfl (Pur.stepA (P_load_ept_part rfl rfl rfl rfl ty23)) rfl ?_
            | refine Chain.step [] rfl rfl rfl (Pur.stepA (P_load_box_part rfl rfl rfl rfl ty23)) rfl ?_
          refine Chain.step [] rfl rfl rfl (Pur.stepA (P_move rfl)) rfl ?_
          refine Chain.step [] rfl rfl rfl (Pur.stepA (P_move rfl)) rfl ?_
          first
            | refine Chain.step [2, 1] rfl rfl rfl (Pur.stepA (P_index_sl rfl rfl sl41 ty64 (fun _ => rfl) (by omega) (by assumption))) rfl ?_
            | refine Chain.step [2, 1] rfl rfl rfl (Pur.stepA (P_index_own rfl rfl rfl sl41 ty64 (by omega) (by omega))) rfl ?_
          first
            | refine Chain.step [2, 1, 3] rfl rfl rfl (Pur.stepA (P_fieldAddr_ptr rfl fo64_1)) rfl ?_
            | refine Chain.step [2, 1, 3] rfl rfl rfl (Pur.stepA (P_fieldAddr_ept rfl fo64_1)) rfl ?_
          first
            | refine Chain.step [2, 1, 3, 4] rfl rfl rfl (Pur.stepA (P_load_box rfl rfl rfl ty3)) rfl ?_
            | refine Chain.step [2, 1, 3, 4] rfl rfl rfl (Pur.stepA (P_load_ept rfl rfl rfl ty3)) rfl ?_
            | refine Chain.step [2, 1, 3, 4] rfl rfl rfl (Pur.stepA (P_load_row rfl rfl (by assumption) rfl rfl ty3)) rfl ?_
          refine Chain.step [2, 1, 3, 4, 5, 0] rfl rfl rfl (A_call rfl rfl rfl (LeL.refl _) (C_tactusref05_Above' m _)) rfl ?_
          refine Chain.step [2, 1, 3, 4, 5, 0, 6] rfl rfl rfl (Pur.stepA (P_move rfl)) rfl ?_
          refine Chain.step [2, 1, 3, 4, 5, 0, 6, 7] rfl rfl rfl (Pur.stepA (P_extract rfl rfl)) rfl ?_
          refine Chain.step [2, 1, 3, 4, 5, 0, 6, 7] rfl rfl rfl (Pur.stepA (P_extract rfl rfl)) rfl ?_
          refine Chain.step [7, 5, 4, 3, 2, 1, 0, 6, 8] rfl rfl rfl (Pur.stepA (P_assign rfl)) rfl ?_
          refine Chain.step [8, 7, 6, 5, 4, 3, 2, 1, 0, 10, 9] rfl rfl rfl (Pur.stepA (P_assign rfl)) rfl ?_
          refine Chain.tail [] rfl rfl ?_
          refine Ex.nil ?_
          refine X.seq ?_
          refine X.region ?_
          refine Ex.pur (P_move rfl) rfl ?_
          refine Ex.pur (P_move rfl) rfl ?_
          first
            | refine Ex.pur (P_index_sl rfl rfl sl41 ty64 (fun _ => rfl) (by omega) (by assumption)) rfl ?_
            | refine Ex.pur (P_index_own rfl rfl rfl sl41 ty64 (by omega) (by omega)) rfl ?_
          first
            | refine Ex.pur (P_fieldAddr_ptr rfl fo64_0) rfl ?_
            | refine Ex.pur (P_fieldAddr_ept rfl fo64_0) rfl ?_
          first
            | refine Ex.pur (P_load_box rfl rfl rfl ty3) rfl ?_
            | refine Ex.pur (P_load_ept rfl rfl rfl ty3) rfl ?_
            | refine Ex.pur (P_load_row rfl rfl (by assumption) rfl rfl ty3) rfl ?_
          refine Ex.pur (P_eql rfl rfl) rfl ?_
          refine Ex.pur (P_move rfl) rfl ?_
          refine Ex.gstart (t := 66) true rfl ?_
          refine ExG.step rfl rfl rfl (fun hg => Pur.stepA (P_move rfl)) rfl ?_
          refine ExG.step rfl rfl rfl (fun hg => Pur.stepA (P_eql rfl rfl)) rfl ?_
          refine ExG.done ?_
          first
            | refine Ex.pur (P_and rfl rfl) rfl ?_
            | refine Ex.pur (P_or rfl rfl) rfl ?_
            | (refine Ex.pur (P_pick_true rfl ?_ rfl) rfl ?_; iterate 1 (· first | assumption | rfl | omega | (simp; done) | (simp; omega) | (simp_all; done)))
            | (refine Ex.pur (P_pick_false rfl ?_ rfl) rfl ?_; iterate 1 (· first | assumption | rfl | omega | (simp; done) | (simp; omega) | (simp_all; done)))
          refine Ex.nil ?_
          refine X.cond rfl (fun hc10 => ?_) (fun hc10 => ?_)
          · try simp only [decide_eq_true_eq, decide_eq_false_iff_not, Bool.not_eq_true', Bool.not_eq_false', Bool.and_eq_true, Bool.or_eq_true, Bool.and_eq_false_iff, Bool.or_eq_false_iff, Int.not_lt, Int.not_le, Decidable.not_not] at hc10
            have hF : sgR m l k s = 13 := by rw [hsg, if_pos hc10]
            refine X.seq ?_
            refine X.region ?_
            refine Ex.pur (P_assign rfl) rfl ?_
            refine Ex.nil ?_
            refine X.ret ?_
            refine RetQ.ret (.one (.tmp rfl (LeV.eq ?_)))
            all_goals (rw [hk2, ckFromR_bad hs (by rw [hF]; decide), hF])
          try simp only [decide_eq_true_eq, decide_eq_false_iff_not, Bool.not_eq_true', Bool.not_eq_false', Bool.and_eq_true, Bool.or_eq_true, Bool.and_eq_false_iff, Bool.or_eq_false_iff, Int.not_lt, Int.not_le, Decidable.not_not] at hc10
          have h0 : sgR m l k s = 0 := by rw [hsg, if_neg (by first | exact hc10 | (intro h; simp_all) | omega)]
          refine X.skip ?_
          refine X.region ?_
          refine Ex.pur (P_move rfl) rfl ?_
          refine Ex.pur (P_add rfl rfl (IntWalk.i64_in _ (by omega))) rfl ?_
          refine Ex.pur (P_assign rfl) rfl ?_
          refine Ex.nil ?_
          refine ⟨k + 1, Imp.of (by (repeat' (first | exact True.intro | (refine And.intro ⟨_, rfl, ?_⟩ ?_; (first | exact LeV.refl _ | exact LeV.any _ | exact LeB.refl _ | (refine LeV.eq ?_; simp; done) | (refine LeV.eq ?_; congr 1; omega) | (refine LeV.eq ?_; dsimp only; congr 1; omega) | (refine LeV.eq (congrArg (AV.int _) ?_); omega) | exact LeV.nils _ | exact LeB.row (by assumption) | (refine LeB.eq ?_; congr 1; omega) | (refine LeB.eq ?_; congr 1; simp only [cond_true, cond_false]; omega)))))) (by (repeat' (first | exact True.intro | (refine And.intro ⟨_, rfl, ?_⟩ ?_; (first | exact LeV.refl _ | exact LeV.any _ | exact LeB.refl _ | (refine LeV.eq ?_; simp; done) | (refine LeV.eq ?_; congr 1; omega) | (refine LeV.eq ?_; dsimp only; congr 1; omega) | (refine LeV.eq (congrArg (AV.int _) ?_); omega) | exact LeV.nils _ | exact LeB.row (by assumption) | (refine LeB.eq ?_; congr 1; omega) | (refine LeB.eq ?_; congr 1; simp only [cond_true, cond_false]; omega)))))), ?_, ?_⟩
          · exact ⟨by omega, by rw [hk2, ckFromR_ok hs h0]⟩
          · omega
        · try simp only [decide_eq_true_eq, decide_eq_false_iff_not, Bool.not_eq_true', Bool.not_eq_false', Bool.and_eq_true, Bool.or_eq_true, Bool.and_eq_false_iff, Bool.or_eq_false_iff, Int.not_lt, Int.not_le, Decidable.not_not] at hc8
          have hF : sgR m l k s = 8 := by unfold sgR; rw [if_neg (by omega), if_neg (by omega)]
          refine X.seq ?_
          refine X.region ?_
          refine Ex.pur (P_assign rfl) rfl ?_
          refine Ex.nil ?_
          refine X.ret ?_
          refine RetQ.ret (.one (.tmp rfl (LeV.eq ?_)))
          all_goals (rw [hk2, ckFromR_bad hs (by rw [hF]; decide), hF])
  · try simp only [decide_eq_true_eq, decide_eq_false_iff_not, Bool.not_eq_true', Bool.not_eq_false', Bool.and_eq_true, Bool.or_eq_true, Bool.and_eq_false_iff, Bool.or_eq_false_iff, Int.not_lt, Int.not_le, Decidable.not_not] at hc2
    refine X.exit ?_
    refine X.seq ?_
    refine X.region ?_
    refine Ex.pur (P_assign rfl) rfl ?_
    refine Ex.nil ?_
    refine X.ret ?_
    refine RetQ.ret (.one (.tmp rfl (LeV.eq ?_)))
    all_goals (rw [hk2, List.drop_of_length_le (by omega)]; rfl)
theorem C_tactusref09_meanings (m : Mn) (s : Sg) : Fn Try.prog 117 [mnA m, sgA s] (intsA (mngR m s)) := by
  refine Fn.intro (ts := [(0, mnA m), (1, sgA s)]) (rv := [.tmp 4]) (n := 53) (by kernel_rfl) Try.func117 rfl Try.ntmps117 rfl rfl rfl (by simp) (fun g w d => ?_)
  refine X.seq ?_
  refine X.region ?_
  refine Ex.stepA (A_box_agg (k := 2) rfl rfl) rfl rfl ?_
  refine Ex.stepA (A_box_agg (k := 3) rfl rfl) rfl rfl ?_
  refine Ex.pur (P_assign rfl) rfl ?_
  refine Ex.nil ?_
  refine X.seq ?_
  refine X.region ?_
  first
    | refine Ex.pur (P_load_box_all rfl rfl rfl rfl ty23) rfl ?_
    | refine Ex.pur (P_load_ept_all rfl rfl rfl ty23) rfl ?_
    | refine Ex.pur (P_load_ept_part rfl rfl rfl rfl ty23) rfl ?_
    | refine Ex.pur (P_load_box_part rfl rfl rfl rfl ty23) rfl ?_
  first
    | refine Ex.pur (P_fieldAddr_ptr rfl fo64_1) rfl ?_
    | refine Ex.pur (P_fieldAddr_ept rfl fo64_1) rfl ?_
  first
    | refine Ex.pur (P_load_box rfl rfl rfl ty3) rfl ?_
    | refine Ex.pur (P_load_ept rfl rfl rfl ty3) rfl ?_
    | refine Ex.pur (P_load_row rfl rfl (by assumption) rfl rfl ty3) rfl ?_
  refine Ex.call rfl rfl rfl (C_tactusref05_Above' m s.Value) rfl ?_
  refine Ex.pur (P_move rfl) rfl ?_
  refine Ex.pur (P_extract rfl rfl) rfl ?_
  refine Ex.pur (P_extract rfl rfl) rfl ?_
  refine Ex.pur (P_assign rfl) rfl ?_
  refine Ex.pur (P_assign rfl) rfl ?_
  refine Ex.nil ?_
  refine X.seq ?_
  refine X.block ?_
  refine X.seq ?_
  refine X.region ?_
  first
    | refine Ex.pur (P_fieldAddr_ptr rfl fo64_0) rfl ?_
    | refine Ex.pur (P_fieldAddr_ept rfl fo64_0) rfl ?_
  first
    | refine Ex.pur (P_load_box rfl rfl rfl ty3) rfl ?_
    | refine Ex.pur (P_load_ept rfl rfl rfl ty3) rfl ?_
    | refine Ex.pur (P_load_row rfl rfl (by assumption) rfl rfl ty3) rfl ?_
  refine Ex.pur (P_eql rfl rfl) rfl ?_
  refine Ex.pur (P_assign rfl) rfl ?_
  refine Ex.nil ?_
  refine X.cond rfl (fun hc1 => ?_) (fun hc1 => ?_)
  · try simp only [decide_eq_true_eq, decide_eq_false_iff_not, Bool.not_eq_true', Bool.not_eq_false', Bool.and_eq_true, Bool.or_eq_true, Bool.and_eq_false_iff, Bool.or_eq_false_iff, Int.not_lt, Int.not_le, Decidable.not_not] at hc1
    refine X.seq ?_
    refine X.region ?_
    refine Ex.pur (P_move rfl) rfl ?_
    refine Ex.stepA (A_buildSlice (k := 19) (enc := intE) (l := [_]) sl29 ty3 ze3 (by decide) rfl rfl rfl rfl (by decide) (by decide) (fun _ => rfl) rfl) rfl rfl ?_
    refine Ex.pur (P_assign rfl) rfl ?_
    refine Ex.nil ?_
    refine X.ret ?_
    refine RetQ.imp (Imp.freeze (k := 19) rfl) ?_
    refine RetQ.ret (.one (.tmp rfl (LeV.eq ?_)))
    all_goals (first | (simp [mngR, *]; rfl) | (have h0 : ¬ m.aV s.Value = 0 := (by omega); simp [mngR, *]; rfl))
  try simp only [decide_eq_true_eq, decide_eq_false_iff_not, Bool.not_eq_true', Bool.not_eq_false', Bool.and_eq_true, Bool.or_eq_true, Bool.and_eq_false_iff, Bool.or_eq_false_iff, Int.not_lt, Int.not_le, Decidable.not_not] at hc1
  refine X.seq ?_
  refine X.region ?_
  first
    | refine Ex.pur (P_fieldAddr_ptr rfl fo64_4) rfl ?_
    | refine Ex.pur (P_fieldAddr_ept rfl fo64_4) rfl ?_
  first
    | refine Ex.pur (P_load_box rfl rfl rfl ty4) rfl ?_
    | refine Ex.pur (P_load_ept rfl rfl rfl ty4) rfl ?_
    | refine Ex.pur (P_load_row rfl rfl (by assumption) rfl rfl ty4) rfl ?_
  refine Ex.pur (P_assign rfl) rfl ?_
  refine Ex.nil ?_
  refine X.cond rfl (fun hc2 => ?_) (fun hc2 => ?_)
  · try simp only [decide_eq_true_eq, decide_eq_false_iff_not, Bool.not_eq_true', Bool.not_eq_false', Bool.and_eq_true, Bool.or_eq_true, Bool.and_eq_false_iff, Bool.or_eq_false_iff, Int.not_lt, Int.not_le, Decidable.not_not] at hc2
    refine X.seq ?_
    refine X.region ?_
    refine Ex.stepA (A_buildSlice (k := 23) (enc := intE) (l := [_]) sl29 ty3 ze3 (by decide) rfl rfl rfl rfl (by decide) (by decide) (fun _ => rfl) rfl) rfl rfl ?_
    refine Ex.pur (P_assign rfl) rfl ?_
    refine Ex.nil ?_
    refine X.ret ?_
    refine RetQ.imp (Imp.freeze (k := 23) rfl) ?_
    refine RetQ.ret (.one (.tmp rfl (LeV.eq ?_)))
    all_goals (first | (simp [mngR, *]; rfl) | (have h0 : ¬ m.aV s.Value = 0 := (by omega); simp [mngR, *]; rfl))
  try simp only [decide_eq_true_eq, decide_eq_false_iff_not, Bool.not_eq_true', Bool.not_eq_false', Bool.and_eq_true, Bool.or_eq_true, Bool.and_eq_false_iff, Bool.or_eq_false_iff, Int.not_lt, Int.not_le, Decidable.not_not] at hc2
  refine X.seq ?_
  refine X.region ?_
  first
    | refine Ex.pur (P_load_box_all rfl rfl rfl rfl ty23) rfl ?_
    | refine Ex.pur (P_load_ept_all rfl rfl rfl ty23) rfl ?_
    | refine Ex.pur (P_load_ept_part rfl rfl rfl rfl ty23) rfl ?_
    | refine Ex.pur (P_load_box_part rfl rfl rfl rfl ty23) rfl ?_
  first
    | refine Ex.pur (P_fieldAddr_ptr rfl fo64_1) rfl ?_
    | refine Ex.pur (P_fieldAddr_ept rfl fo64_1) rfl ?_
  first
    | refine Ex.pur (P_load_box rfl rfl rfl ty3) rfl ?_
    | refine Ex.pur (P_load_ept rfl rfl rfl ty3) rfl ?_
    | refine Ex.pur (P_load_row rfl rfl (by assumption) rfl rfl ty3) rfl ?_
  refine Ex.call rfl rfl rfl (C_tactusref05_P m s.Value) rfl ?_
  refine Ex.pur (P_eql rfl rfl) rfl ?_
  refine Ex.pur (P_move rfl) rfl ?_
  refine Ex.gstart (t := 30) true rfl ?_
  refine ExG.step rfl rfl rfl (fun hg => Pur.stepA (P_move rfl)) rfl ?_
  refine ExG.step rfl rfl rfl (fun hg => Pur.stepA (P_eql rfl rfl)) rfl ?_
  refine ExG.done ?_
  first
    | refine Ex.pur (P_and rfl rfl) rfl ?_
    | refine Ex.pur (P_or rfl rfl) rfl ?_
    | (refine Ex.pur (P_pick_true rfl ?_ rfl) rfl ?_; iterate 1 (· first | assumption | rfl | omega | (simp; done) | (simp; omega) | (simp_all; done)))
    | (refine Ex.pur (P_pick_false rfl ?_ rfl) rfl ?_; iterate 1 (· first | assumption | rfl | omega | (simp; done) | (simp; omega) | (simp_all; done)))
  refine Ex.pur (P_assign rfl) rfl ?_
  refine Ex.nil ?_
  refine X.cond rfl (fun hc3 => ?_) (fun hc3 => ?_)
  · try simp only [decide_eq_true_eq, decide_eq_false_iff_not, Bool.not_eq_true', Bool.not_eq_false', Bool.and_eq_true, Bool.or_eq_true, Bool.and_eq_false_iff, Bool.or_eq_false_iff, Int.not_lt, Int.not_le, Decidable.not_not] at hc3
    refine X.seq ?_
    refine X.region ?_
    refine Ex.stepA (A_buildSlice (k := 34) (enc := intE) (l := [_]) sl29 ty3 ze3 (by decide) rfl rfl rfl rfl (by decide) (by decide) (fun _ => rfl) rfl) rfl rfl ?_
    refine Ex.pur (P_assign rfl) rfl ?_
    refine Ex.nil ?_
    refine X.ret ?_
    refine RetQ.imp (Imp.freeze (k := 34) rfl) ?_
    refine RetQ.ret (.one (.tmp rfl (LeV.eq ?_)))
    all_goals (first | (simp [mngR, *]; rfl) | (have h0 : ¬ m.aV s.Value = 0 := (by omega); simp [mngR, *]; rfl))
  try simp only [decide_eq_true_eq, decide_eq_false_iff_not, Bool.not_eq_true', Bool.not_eq_false', Bool.and_eq_true, Bool.or_eq_true, Bool.and_eq_false_iff, Bool.or_eq_false_iff, Int.not_lt, Int.not_le, Decidable.not_not] at hc3
  refine X.seq ?_
  refine X.region ?_
  first
    | refine Ex.pur (P_load_box_all rfl rfl rfl rfl ty23) rfl ?_
    | refine Ex.pur (P_load_ept_all rfl rfl rfl ty23) rfl ?_
    | refine Ex.pur (P_load_ept_part rfl rfl rfl rfl ty23) rfl ?_
    | refine Ex.pur (P_load_box_part rfl rfl rfl rfl ty23) rfl ?_
  first
    | refine Ex.pur (P_fieldAddr_ptr rfl fo64_1) rfl ?_
    | refine Ex.pur (P_fieldAddr_ept rfl fo64_1) rfl ?_
  first
    | refine Ex.pur (P_load_box rfl rfl rfl ty3) rfl ?_
    | refine Ex.pur (P_load_ept rfl rfl rfl ty3) rfl ?_
    | refine Ex.pur (P_load_row rfl rfl (by assumption) rfl rfl ty3) rfl ?_
  refine Ex.call rfl rfl rfl (C_tactusref05_P m s.Value) rfl ?_
  refine Ex.pur (P_eql rfl rfl) rfl ?_
  refine Ex.pur (P_assign rfl) rfl ?_
  refine Ex.nil ?_
  refine X.cond rfl (fun hc4 => ?_) (fun hc4 => ?_)
  · try simp only [decide_eq_true_eq, decide_eq_false_iff_not, Bool.not_eq_true', Bool.not_eq_false', Bool.and_eq_true, Bool.or_eq_true, Bool.and_eq_false_iff, Bool.or_eq_false_iff, Int.not_lt, Int.not_le, Decidable.not_not] at hc4
    refine X.seq ?_
    refine X.region ?_
    refine Ex.pur (P_move rfl) rfl ?_
    refine Ex.stepA (A_buildSlice (k := 42) (enc := intE) (l := [_, _]) sl29 ty3 ze3 (by decide) rfl rfl rfl rfl (by decide) (by decide) (fun _ => rfl) rfl) rfl rfl ?_
    refine Ex.pur (P_assign rfl) rfl ?_
    refine Ex.nil ?_
    refine X.ret ?_
    refine RetQ.imp (Imp.freeze (k := 42) rfl) ?_
    refine RetQ.ret (.one (.tmp rfl (LeV.eq ?_)))
    all_goals (first | (simp [mngR, *]; rfl) | (have h0 : ¬ m.aV s.Value = 0 := (by omega); simp [mngR, *]; rfl))
  try simp only [decide_eq_true_eq, decide_eq_false_iff_not, Bool.not_eq_true', Bool.not_eq_false', Bool.and_eq_true, Bool.or_eq_true, Bool.and_eq_false_iff, Bool.or_eq_false_iff, Int.not_lt, Int.not_le, Decidable.not_not] at hc4
  refine X.seq ?_
  refine X.region ?_
  refine Ex.pur (P_move rfl) rfl ?_
  refine Ex.pur (P_eql rfl rfl) rfl ?_
  refine Ex.pur (P_assign rfl) rfl ?_
  refine Ex.nil ?_
  refine X.cond rfl (fun hc5 => ?_) (fun hc5 => ?_)
  · try simp only [decide_eq_true_eq, decide_eq_false_iff_not, Bool.not_eq_true', Bool.not_eq_false', Bool.and_eq_true, Bool.or_eq_true, Bool.and_eq_false_iff, Bool.or_eq_false_iff, Int.not_lt, Int.not_le, Decidable.not_not] at hc5
    refine X.seq ?_
    refine X.region ?_
    first
      | refine Ex.pur (P_fieldAddr_ptr rfl fo64_1) rfl ?_
      | refine Ex.pur (P_fieldAddr_ept rfl fo64_1) rfl ?_
    first
      | refine Ex.pur (P_load_box rfl rfl rfl ty3) rfl ?_
      | refine Ex.pur (P_load_ept rfl rfl rfl ty3) rfl ?_
      | refine Ex.pur (P_load_row rfl rfl (by assumption) rfl rfl ty3) rfl ?_
    refine Ex.stepA (A_buildSlice (k := 48) (enc := intE) (l := [_]) sl29 ty3 ze3 (by decide) rfl rfl rfl rfl (by decide) (by decide) (fun _ => rfl) rfl) rfl rfl ?_
    refine Ex.pur (P_assign rfl) rfl ?_
    refine Ex.nil ?_
    refine X.ret ?_
    refine RetQ.imp (Imp.freeze (k := 48) rfl) ?_
    refine RetQ.ret (.one (.tmp rfl (LeV.eq ?_)))
    all_goals (first | (simp [mngR, *]; rfl) | (have h0 : ¬ m.aV s.Value = 0 := (by omega); simp [mngR, *]; rfl))
  try simp only [decide_eq_true_eq, decide_eq_false_iff_not, Bool.not_eq_true', Bool.not_eq_false', Bool.and_eq_true, Bool.or_eq_true, Bool.and_eq_false_iff, Bool.or_eq_false_iff, Int.not_lt, Int.not_le, Decidable.not_not] at hc5
  refine X.skip ?_
  refine X.seq ?_
  refine X.region ?_
  refine Ex.pur (P_move rfl) rfl ?_
  first
    | refine Ex.pur (P_fieldAddr_ptr rfl fo64_1) rfl ?_
    | refine Ex.pur (P_fieldAddr_ept rfl fo64_1) rfl ?_
  first
    | refine Ex.pur (P_load_box rfl rfl rfl ty3) rfl ?_
    | refine Ex.pur (P_load_ept rfl rfl rfl ty3) rfl ?_
    | refine Ex.pur (P_load_row rfl rfl (by assumption) rfl rfl ty3) rfl ?_
  refine Ex.stepA (A_buildSlice (k := 52) (enc := intE) (l := [_, _]) sl29 ty3 ze3 (by decide) rfl rfl rfl rfl (by decide) (by decide) (fun _ => rfl) rfl) rfl rfl ?_
  refine Ex.pur (P_assign rfl) rfl ?_
  refine Ex.nil ?_
  refine X.ret ?_
  refine RetQ.imp (Imp.freeze (k := 52) rfl) ?_
  refine RetQ.ret (.one (.tmp rfl (LeV.eq ?_)))
  all_goals (first | (simp [mngR, *]; rfl) | (have h0 : ¬ m.aV s.Value = 0 := (by omega); simp [mngR, *]; rfl))
theorem C_tactusref09_Meanings (m : Mn) (l : List Sg) (hl : l.length ≤ 60) : Fn Try.prog 33 [mnA m, sgsA l] (.tup [listsA (if ckR m l = 0 then mnsR m l else []), iv (ckR m l)]) := by
  refine Fn.intro (ts := [(0, mnA m), (1, sgsA l)]) (rv := [.tmp 4, .tmp 5]) (n := 40) (by kernel_rfl) Try.func33 rfl Try.ntmps33 rfl rfl rfl (by simp) (fun g w d => ?_)
  refine X.seq ?_
  refine X.region ?_
  refine Ex.stepA (A_box_agg (k := 2) rfl rfl) rfl rfl ?_
  refine Ex.pur (P_assign rfl) rfl ?_
  refine Ex.pur (P_assign rfl) rfl ?_
  refine Ex.nil ?_
  refine X.seq ?_
  refine X.region ?_
  first
    | refine Ex.pur (P_load_box_all rfl rfl rfl rfl ty23) rfl ?_
    | refine Ex.pur (P_load_ept_all rfl rfl rfl ty23) rfl ?_
    | refine Ex.pur (P_load_ept_part rfl rfl rfl rfl ty23) rfl ?_
    | refine Ex.pur (P_load_box_part rfl rfl rfl rfl ty23) rfl ?_
  refine Ex.pur (P_move rfl) rfl ?_
  refine Ex.call rfl rfl rfl (C_tactusref09_Check m l hl) rfl ?_
  refine Ex.pur (P_assign rfl) rfl ?_
  refine Ex.nil ?_
  refine X.seq ?_
  refine X.seq ?_
  refine X.region ?_
  refine Ex.pur (P_move rfl) rfl ?_
  refine Ex.pur (P_neq rfl rfl) rfl ?_
  refine Ex.nil ?_
  refine X.cond rfl (fun hc1 => ?_) (fun hc1 => ?_)
  · try simp only [decide_eq_true_eq, decide_eq_false_iff_not, Bool.not_eq_true', Bool.not_eq_false', Bool.and_eq_true, Bool.or_eq_true, Bool.and_eq_false_iff, Bool.or_eq_false_iff, Int.not_lt, Int.not_le, Decidable.not_not] at hc1
    refine X.seq ?_
    refine X.region ?_
    refine Ex.pur (P_move rfl) rfl ?_
    refine Ex.pur (P_assign rfl) rfl ?_
    refine Ex.pur (P_assign rfl) rfl ?_
    refine Ex.nil ?_
    refine X.ret ?_
    refine RetQ.imp (Imp.of (ts := [(4, listsA []), (5, iv (ckR m l))]) (hs := []) (by (repeat' (first | exact True.intro | (refine And.intro ⟨_, rfl, ?_⟩ ?_; (first | exact LeV.refl _ | exact LeV.any _ | exact LeB.refl _ | (refine LeV.eq ?_; simp; done) | (refine LeV.eq ?_; congr 1; omega) | (refine LeV.eq ?_; dsimp only; congr 1; omega) | (refine LeV.eq (congrArg (AV.int _) ?_); omega) | exact LeV.nils _ | exact LeB.row (by assumption) | (refine LeB.eq ?_; congr 1; omega) | (refine LeB.eq ?_; congr 1; simp only [cond_true, cond_false]; omega)))))) trivial) ?_
    refine RetQ.ret (.many (by decide) (.cons (.tmp rfl (LeV.eq ?_)) (.cons (.tmp rfl (LeV.eq ?_)) .nil)))
    all_goals (first | (simp [hc1]; done) | (rw [if_pos hc1, ← hfin]; rfl) | (rw [if_neg hc1]) | (rw [hc1]; rfl) | rfl)
  try simp only [decide_eq_true_eq, decide_eq_false_iff_not, Bool.not_eq_true', Bool.not_eq_false', Bool.and_eq_true, Bool.or_eq_true, Bool.and_eq_false_iff, Bool.or_eq_false_iff, Int.not_lt, Int.not_le, Decidable.not_not] at hc1
  refine X.skip ?_
  refine X.seq ?_
  refine X.region ?_
  refine Ex.pur (P_assign rfl) rfl ?_
  refine Ex.nil ?_
  refine X.seq ?_
  refine X.seq ?_
  refine X.imp (Imp.mkrow intsE 29 1 7 7 rfl rfl) ?_
  refine X.region ?_
  refine Ex.pur (P_assign rfl) rfl ?_
  refine Ex.nil ?_
  refine X.block ?_
  refine X.loop (ι := Nat) (fun (k : Nat) => ⟨[(1, sgsA l), (2, .ptr 2 0 0 0), (7, .own 7), (8, iv (k : Int))], [(2, .box (mnE m) 23), (7, .row intsE ((dotsK l k).map (mnAtR m l)) 29 1)]⟩) (fun (k : Nat) => k ≤ l.length) (fun (k : Nat) => l.length - k) 0 ?_ ?_ (fun k hk => ?_)
  · exact Imp.of (by (repeat' (first | exact True.intro | (refine And.intro ⟨_, rfl, ?_⟩ ?_; (first | exact LeV.refl _ | exact LeV.any _ | exact LeB.refl _ | (refine LeV.eq ?_; simp; done) | (refine LeV.eq ?_; congr 1; omega) | (refine LeV.eq ?_; dsimp only; congr 1; omega) | (refine LeV.eq (congrArg (AV.int _) ?_); omega) | exact LeV.nils _ | exact LeB.row (by assumption) | (refine LeB.eq ?_; congr 1; omega) | (refine LeB.eq ?_; congr 1; simp only [cond_true, cond_false]; omega)))))) (by (repeat' (first | exact True.intro | (refine And.intro ⟨_, rfl, ?_⟩ ?_; (first | exact LeV.refl _ | exact LeV.any _ | exact LeB.refl _ | (refine LeV.eq ?_; simp; done) | (refine LeV.eq ?_; congr 1; omega) | (refine LeV.eq ?_; dsimp only; congr 1; omega) | (refine LeV.eq (congrArg (AV.int _) ?_); omega) | exact LeV.nils _ | exact LeB.row (by assumption) | (refine LeB.eq ?_; congr 1; omega) | (refine LeB.eq ?_; congr 1; simp only [cond_true, cond_false]; omega))))))
  · first | trivial | omega | (refine ⟨?_, ?_⟩ <;> omega)
  refine X.seq ?_
  refine X.seq ?_
  refine X.region ?_
  refine Ex.pur (P_move rfl) rfl ?_
  refine Ex.pur (P_move rfl) rfl ?_
  first
    | refine Ex.pur (P_len_sl rfl sl41) rfl ?_
    | refine Ex.pur (P_len_own rfl rfl sl41) rfl ?_
    | refine Ex.pur (P_len_nils rfl sl41) rfl ?_
  refine Ex.pur (P_lss rfl rfl) rfl ?_
  refine Ex.nil ?_
  refine X.cond rfl (fun hc2 => ?_) (fun hc2 => ?_)
  · try simp only [decide_eq_true_eq, decide_eq_false_iff_not, Bool.not_eq_true', Bool.not_eq_false', Bool.and_eq_true, Bool.or_eq_true, Bool.and_eq_false_iff, Bool.or_eq_false_iff, Int.not_lt, Int.not_le, Decidable.not_not] at hc2
    obtain ⟨s, hs⟩ : ∃ s, l[k]? = some s := ⟨_, List.getElem?_eq_getElem (by omega)⟩
    have hs2 : l[(k : Int).toNat]? = some s := by simpa using hs
    have hdl := dotsK_len l k
    have htl : ((dotsK l k).map (mnAtR m l)).length ≤ 60 := by simp; omega
    refine X.skip ?_
    refine X.seq ?_
    refine X.block ?_
    refine X.seq ?_
    refine X.region ?_
    refine Ex.pur (P_move rfl) rfl ?_
    refine Ex.pur (P_move rfl) rfl ?_
    first
      | refine Ex.pur (P_index_sl rfl rfl sl41 ty64 (fun _ => rfl) (by omega) (by assumption)) rfl ?_
      | refine Ex.pur (P_index_own rfl rfl rfl sl41 ty64 (by omega) (by omega)) rfl ?_
    first
      | refine Ex.pur (P_fieldAddr_ptr rfl fo64_0) rfl ?_
      | refine Ex.pur (P_fieldAddr_ept rfl fo64_0) rfl ?_
    first
      | refine Ex.pur (P_load_box rfl rfl rfl ty3) rfl ?_
      | refine Ex.pur (P_load_ept rfl rfl rfl ty3) rfl ?_
      | refine Ex.pur (P_load_row rfl rfl (by assumption) rfl rfl ty3) rfl ?_
    refine Ex.pur (P_eql rfl rfl) rfl ?_
    refine Ex.nil ?_
    refine X.cond rfl (fun hc3 => ?_) (fun hc3 => ?_)
    · try simp only [decide_eq_true_eq, decide_eq_false_iff_not, Bool.not_eq_true', Bool.not_eq_false', Bool.and_eq_true, Bool.or_eq_true, Bool.and_eq_false_iff, Bool.or_eq_false_iff, Int.not_lt, Int.not_le, Decidable.not_not] at hc3
      obtain ⟨p, hk0, hp, hpS, hp8⟩ := prevR hc1 hs hc3
      have hrow2 := dotsK_yes (mnAtR m l) hs hc3
      rw [show mnAtR m l k = mngR m p by unfold mnAtR; rw [hpS]] at hrow2
      refine X.seq ?_
      refine X.draw [9, 28, 29, 30, 31, 32, 33, 34] mo rfl ?_
      first
        | refine Chain.step [] rfl rfl rfl (Pur.stepA (P_load_box_all rfl rfl rfl rfl ty23)) rfl ?_
        | refine Chain.step [] rfl rfl rfl (Pur.stepA (P_load_ept_all rfl rfl rfl ty23)) rfl ?_
        | refine Chain.step [] rfl rfl rfl (Pur.stepA (P_load_ept_part rfl rfl rfl rfl ty23)) rfl ?_
        | refine Chain.step [] rfl rfl rfl (Pur.stepA (P_load_box_part rfl rfl rfl rfl ty23)) rfl ?_
      refine Chain.step [] rfl rfl rfl (Pur.stepA (P_move rfl)) rfl ?_
      refine Chain.step [] rfl rfl rfl (Pur.stepA (P_move rfl)) rfl ?_
      refine Chain.step [2] rfl rfl rfl (Pur.stepA (P_sub rfl rfl (IntWalk.i64_in _ (by omega)))) rfl ?_
      first
        | refine Chain.step [2, 3, 1] rfl rfl rfl (Pur.stepA (P_index_sl rfl rfl sl41 ty64 (fun _ => rfl) (by omega) (by assumption))) rfl ?_
        | refine Chain.step [2, 3, 1] rfl rfl rfl (Pur.stepA (P_index_own rfl rfl rfl sl41 ty64 (by omega) (by omega))) rfl ?_
      first
        | refine Chain.step [2, 3, 1, 4] rfl rfl rfl (Pur.stepA (P_load_ept_all rfl rfl rfl ty64)) rfl ?_
        | refine Chain.step [2, 3, 1, 4] rfl rfl rfl (Pur.stepA (P_load_ept_part rfl rfl rfl rfl ty64)) rfl ?_
      refine Chain.step [2, 3, 1, 4, 5, 0] rfl rfl rfl (A_call rfl rfl rfl (LeL.refl _) (C_tactusref09_meanings m _)) rfl ?_
      refine Chain.step [5, 4, 3, 2, 1, 0, 6] rfl rfl rfl (Pur.stepA (P_assign rfl)) rfl ?_
      refine Chain.tail [] rfl rfl ?_
      refine Ex.nil ?_
      refine X.region ?_
      refine Ex.pur (P_move rfl) rfl ?_
      refine Ex.pur (P_move rfl) rfl ?_
      refine Ex.stepA (A_buildSlice (k := 37) (enc := intsE) (l := [_]) sl43 ty29 ze29 (by decide) rfl rfl rfl rfl (by decide) (by decide) (fun _ => rfl) rfl) rfl rfl ?_
      first
        | (refine Ex.stepM (M_append_own rfl rfl rfl rfl sl43 ti29 (by decide) (by decide) (fun _ => rfl) (fun _ => rfl) ?_ rfl) ?_; iterate 1 (· first | assumption | rfl | omega | (simp; done) | (simp; omega) | (simp_all; done)))
        | (refine Ex.stepM (M_append_sl rfl rfl rfl sl43 ti29 (by decide) (by decide) (fun _ => rfl) (fun _ => rfl) ?_ rfl) ?_; iterate 1 (· first | assumption | rfl | omega | (simp; done) | (simp; omega) | (simp_all; done)))
      refine Ex.pur (P_assign rfl) rfl ?_
      refine Ex.nil ?_
      refine X.region ?_
      refine Ex.pur (P_move rfl) rfl ?_
      refine Ex.pur (P_add rfl rfl (IntWalk.i64_in _ (by omega))) rfl ?_
      refine Ex.pur (P_assign rfl) rfl ?_
      refine Ex.nil ?_
      refine ⟨k + 1, Imp.of (by (repeat' (first | exact True.intro | (refine And.intro ⟨_, rfl, ?_⟩ ?_; (first | exact LeV.refl _ | exact LeV.any _ | exact LeB.refl _ | (refine LeV.eq ?_; simp; done) | (refine LeV.eq ?_; congr 1; omega) | (refine LeV.eq ?_; dsimp only; congr 1; omega) | (refine LeV.eq (congrArg (AV.int _) ?_); omega) | exact LeV.nils _ | exact LeB.row (by assumption) | (refine LeB.eq ?_; congr 1; omega) | (refine LeB.eq ?_; congr 1; simp only [cond_true, cond_false]; omega)))))) (by (repeat' (first | exact True.intro | (refine And.intro ⟨_, rfl, ?_⟩ ?_; (first | exact LeV.refl _ | exact LeV.any _ | exact LeB.refl _ | (refine LeV.eq ?_; simp; done) | (refine LeV.eq ?_; congr 1; omega) | (refine LeV.eq ?_; dsimp only; congr 1; omega) | (refine LeV.eq (congrArg (AV.int _) ?_); omega) | exact LeV.nils _ | exact LeB.row (by assumption) | (refine LeB.eq ?_; congr 1; omega) | (refine LeB.eq ?_; congr 1; simp only [cond_true, cond_false]; omega)))))), ?_, ?_⟩
      · first | trivial | omega | (refine ⟨?_, ?_⟩ <;> omega)
      · omega
    · try simp only [decide_eq_true_eq, decide_eq_false_iff_not, Bool.not_eq_true', Bool.not_eq_false', Bool.and_eq_true, Bool.or_eq_true, Bool.and_eq_false_iff, Bool.or_eq_false_iff, Int.not_lt, Int.not_le, Decidable.not_not] at hc3
      have hrow2 := dotsK_no (mnAtR m l) hs hc3
      refine X.skip ?_
      refine X.region ?_
      refine Ex.pur (P_move rfl) rfl ?_
      refine Ex.pur (P_add rfl rfl (IntWalk.i64_in _ (by omega))) rfl ?_
      refine Ex.pur (P_assign rfl) rfl ?_
      refine Ex.nil ?_
      refine ⟨k + 1, Imp.of (by (repeat' (first | exact True.intro | (refine And.intro ⟨_, rfl, ?_⟩ ?_; (first | exact LeV.refl _ | exact LeV.any _ | exact LeB.refl _ | (refine LeV.eq ?_; simp; done) | (refine LeV.eq ?_; congr 1; omega) | (refine LeV.eq ?_; dsimp only; congr 1; omega) | (refine LeV.eq (congrArg (AV.int _) ?_); omega) | exact LeV.nils _ | exact LeB.row (by assumption) | (refine LeB.eq ?_; congr 1; omega) | (refine LeB.eq ?_; congr 1; simp only [cond_true, cond_false]; omega)))))) (by (repeat' (first | exact True.intro | (refine And.intro ⟨_, rfl, ?_⟩ ?_; (first | exact LeV.refl _ | exact LeV.any _ | exact LeB.refl _ | (refine LeV.eq ?_; simp; done) | (refine LeV.eq ?_; congr 1; omega) | (refine LeV.eq ?_; dsimp only; congr 1; omega) | (refine LeV.eq (congrArg (AV.int _) ?_); omega) | exact LeV.nils _ | exact LeB.row (by assumption) | (refine LeB.eq ?_; congr 1; omega) | (refine LeB.eq ?_; congr 1; simp only [cond_true, cond_false]; omega)))))), ?_, ?_⟩
      · first | trivial | omega | (refine ⟨?_, ?_⟩ <;> omega)
      · omega
  · try simp only [decide_eq_true_eq, decide_eq_false_iff_not, Bool.not_eq_true', Bool.not_eq_false', Bool.and_eq_true, Bool.or_eq_true, Bool.and_eq_false_iff, Bool.or_eq_false_iff, Int.not_lt, Int.not_le, Decidable.not_not] at hc2
    have hkl : k = l.length := by omega
    subst hkl
    have hfin : (dotsK l l.length).map (mnAtR m l) = mnsR m l := rfl
    refine X.exit ?_
    refine X.seq ?_
    refine X.region ?_
    refine Ex.pur (P_move rfl) rfl ?_
    refine Ex.pur (P_assign rfl) rfl ?_
    refine Ex.pur (P_assign rfl) rfl ?_
    refine Ex.nil ?_
    refine X.ret ?_
    refine RetQ.imp (Imp.freeze (k := 7) rfl) ?_
    refine RetQ.ret (.many (by decide) (.cons (.tmp rfl (LeV.eq ?_)) (.cons (.tmp rfl (LeV.eq ?_)) .nil)))
    all_goals (first | (simp [hc1]; done) | (rw [if_pos hc1, ← hfin]; rfl) | (rw [if_neg hc1]) | (rw [hc1]; rfl) | rfl)
set_option maxHeartbeats 4000000 in
theorem C_tactusref09_Rule (m : Mn) (l : List Sg) (hl : l.length ≤ 60) : Fn Try.prog 36 [mnA m, sgsA l] (.tup [intsA (if ckR m l = 0 then ruleR m l else []), iv (ckR m l)]) := by
  refine Fn.intro (ts := [(0, mnA m), (1, sgsA l)]) (rv := [.tmp 4, .tmp 5]) (n := 95) (by kernel_rfl) Try.func36 rfl Try.ntmps36 rfl rfl rfl (by simp) (fun g w d => ?_)
  refine X.seq ?_
  refine X.region ?_
  refine Ex.stepA (A_box_agg (k := 2) rfl rfl) rfl rfl ?_
  refine Ex.pur (P_assign rfl) rfl ?_
  refine Ex.pur (P_assign rfl) rfl ?_
  refine Ex.nil ?_
  refine X.seq ?_
  refine X.region ?_
  first
    | refine Ex.pur (P_load_box_all rfl rfl rfl rfl ty23) rfl ?_
    | refine Ex.pur (P_load_ept_all rfl rfl rfl ty23) rfl ?_
    | refine Ex.pur (P_load_ept_part rfl rfl rfl rfl ty23) rfl ?_
    | refine Ex.pur (P_load_box_part rfl rfl rfl rfl ty23) rfl ?_
  refine Ex.pur (P_move rfl) rfl ?_
  refine Ex.call rfl rfl rfl (C_tactusref09_Check m l hl) rfl ?_
  refine Ex.pur (P_assign rfl) rfl ?_
  refine Ex.nil ?_
  refine X.seq ?_
  refine X.seq ?_
  refine X.region ?_
  refine Ex.pur (P_move rfl) rfl ?_
  refine Ex.pur (P_neq rfl rfl) rfl ?_
  refine Ex.nil ?_
  refine X.cond rfl (fun hc1 => ?_) (fun hc1 => ?_)
  · try simp only [decide_eq_true_eq, decide_eq_false_iff_not, Bool.not_eq_true', Bool.not_eq_false', Bool.and_eq_true, Bool.or_eq_true, Bool.and_eq_false_iff, Bool.or_eq_false_iff, Int.not_lt, Int.not_le, Decidable.not_not] at hc1
    refine X.seq ?_
    refine X.region ?_
    refine Ex.pur (P_move rfl) rfl ?_
    refine Ex.pur (P_assign rfl) rfl ?_
    refine Ex.pur (P_assign rfl) rfl ?_
    refine Ex.nil ?_
    refine X.ret ?_
    refine RetQ.imp (Imp.of (ts := [(4, intsA []), (5, iv (ckR m l))]) (hs := []) (by (repeat' (first | exact True.intro | (refine And.intro ⟨_, rfl, ?_⟩ ?_; (first | exact LeV.refl _ | exact LeV.any _ | exact LeB.refl _ | (refine LeV.eq ?_; simp; done) | (refine LeV.eq ?_; congr 1; omega) | (refine LeV.eq ?_; dsimp only; congr 1; omega) | (refine LeV.eq (congrArg (AV.int _) ?_); omega) | exact LeV.nils _ | exact LeB.row (by assumption) | (refine LeB.eq ?_; congr 1; omega) | (refine LeB.eq ?_; congr 1; simp only [cond_true, cond_false]; omega)))))) trivial) ?_
    refine RetQ.ret (.many (by decide) (.cons (.tmp rfl (LeV.eq ?_)) (.cons (.tmp rfl (LeV.eq ?_)) .nil)))
    all_goals (first | (simp [hc1]; done) | (rw [if_pos hc1, ← hfin]; rfl) | (rw [if_neg hc1]) | (rw [hc1]; rfl) | rfl)
  try simp only [decide_eq_true_eq, decide_eq_false_iff_not, Bool.not_eq_true', Bool.not_eq_false', Bool.and_eq_true, Bool.or_eq_true, Bool.and_eq_false_iff, Bool.or_eq_false_iff, Int.not_lt, Int.not_le, Decidable.not_not] at hc1
  refine X.skip ?_
  refine X.seq ?_
  refine X.region ?_
  refine Ex.pur (P_assign rfl) rfl ?_
  refine Ex.nil ?_
  refine X.seq ?_
  refine X.seq ?_
  refine X.imp (Imp.mkrow intE 3 1 7 7 rfl rfl) ?_
  refine X.region ?_
  refine Ex.pur (P_assign rfl) rfl ?_
  refine Ex.nil ?_
  refine X.block ?_
  refine X.loop (ι := Nat) (fun (k : Nat) => ⟨[(1, sgsA l), (2, .ptr 2 0 0 0), (7, .own 7), (8, iv (k : Int))], [(2, .box (mnE m) 23), (7, .row intE ((dotsK l k).map (ruleAtR m l)) 3 1)]⟩) (fun (k : Nat) => k ≤ l.length) (fun (k : Nat) => l.length - k) 0 ?_ ?_ (fun k hk => ?_)
  · exact Imp.of (by (repeat' (first | exact True.intro | (refine And.intro ⟨_, rfl, ?_⟩ ?_; (first | exact LeV.refl _ | exact LeV.any _ | exact LeB.refl _ | (refine LeV.eq ?_; simp; done) | (refine LeV.eq ?_; congr 1; omega) | (refine LeV.eq ?_; dsimp only; congr 1; omega) | (refine LeV.eq (congrArg (AV.int _) ?_); omega) | exact LeV.nils _ | exact LeB.row (by assumption) | (refine LeB.eq ?_; congr 1; omega) | (refine LeB.eq ?_; congr 1; simp only [cond_true, cond_false]; omega)))))) (by (repeat' (first | exact True.intro | (refine And.intro ⟨_, rfl, ?_⟩ ?_; (first | exact LeV.refl _ | exact LeV.any _ | exact LeB.refl _ | (refine LeV.eq ?_; simp; done) | (refine LeV.eq ?_; congr 1; omega) | (refine LeV.eq ?_; dsimp only; congr 1; omega) | (refine LeV.eq (congrArg (AV.int _) ?_); omega) | exact LeV.nils _ | exact LeB.row (by assumption) | (refine LeB.eq ?_; congr 1; omega) | (refine LeB.eq ?_; congr 1; simp only [cond_true, cond_false]; omega))))))
  · first | trivial | omega | (refine ⟨?_, ?_⟩ <;> omega)
  refine X.seq ?_
  refine X.seq ?_
  refine X.region ?_
  refine Ex.pur (P_move rfl) rfl ?_
  refine Ex.pur (P_move rfl) rfl ?_
  first
    | refine Ex.pur (P_len_sl rfl sl41) rfl ?_
    | refine Ex.pur (P_len_own rfl rfl sl41) rfl ?_
    | refine Ex.pur (P_len_nils rfl sl41) rfl ?_
  refine Ex.pur (P_lss rfl rfl) rfl ?_
  refine Ex.nil ?_
  refine X.cond rfl (fun hc2 => ?_) (fun hc2 => ?_)
  · try simp only [decide_eq_true_eq, decide_eq_false_iff_not, Bool.not_eq_true', Bool.not_eq_false', Bool.and_eq_true, Bool.or_eq_true, Bool.and_eq_false_iff, Bool.or_eq_false_iff, Int.not_lt, Int.not_le, Decidable.not_not] at hc2
    obtain ⟨s, hs⟩ : ∃ s, l[k]? = some s := ⟨_, List.getElem?_eq_getElem (by omega)⟩
    have hs2 : l[(k : Int).toNat]? = some s := by simpa using hs
    have hdl := dotsK_len l k
    have htl : ((dotsK l k).map (ruleAtR m l)).length ≤ 60 := by simp; omega
    refine X.skip ?_
    refine X.seq ?_
    refine X.block ?_
    refine X.seq ?_
    refine X.seq ?_
    refine X.region ?_
    refine Ex.pur (P_move rfl) rfl ?_
    refine Ex.pur (P_move rfl) rfl ?_
    first
      | refine Ex.pur (P_index_sl rfl rfl sl41 ty64 (fun _ => rfl) (by omega) (by assumption)) rfl ?_
      | refine Ex.pur (P_index_own rfl rfl rfl sl41 ty64 (by omega) (by omega)) rfl ?_
    first
      | refine Ex.pur (P_fieldAddr_ptr rfl fo64_0) rfl ?_
      | refine Ex.pur (P_fieldAddr_ept rfl fo64_0) rfl ?_
    first
      | refine Ex.pur (P_load_box rfl rfl rfl ty3) rfl ?_
      | refine Ex.pur (P_load_ept rfl rfl rfl ty3) rfl ?_
      | refine Ex.pur (P_load_row rfl rfl (by assumption) rfl rfl ty3) rfl ?_
    refine Ex.pur (P_neq rfl rfl) rfl ?_
    refine Ex.nil ?_
    refine X.cond rfl (fun hc3 => ?_) (fun hc3 => ?_)
    · try simp only [decide_eq_true_eq, decide_eq_false_iff_not, Bool.not_eq_true', Bool.not_eq_false', Bool.and_eq_true, Bool.or_eq_true, Bool.and_eq_false_iff, Bool.or_eq_false_iff, Int.not_lt, Int.not_le, Decidable.not_not] at hc3
      have hrow2 := dotsK_no (ruleAtR m l) hs hc3
      refine X.exit ?_
      refine X.region ?_
      refine Ex.pur (P_move rfl) rfl ?_
      refine Ex.pur (P_add rfl rfl (IntWalk.i64_in _ (by omega))) rfl ?_
      refine Ex.pur (P_assign rfl) rfl ?_
      refine Ex.nil ?_
      refine ⟨k + 1, Imp.of (by (repeat' (first | exact True.intro | (refine And.intro ⟨_, rfl, ?_⟩ ?_; (first | exact LeV.refl _ | exact LeV.any _ | exact LeB.refl _ | (refine LeV.eq ?_; simp; done) | (refine LeV.eq ?_; congr 1; omega) | (refine LeV.eq ?_; dsimp only; congr 1; omega) | (refine LeV.eq (congrArg (AV.int _) ?_); omega) | exact LeV.nils _ | exact LeB.row (by assumption) | (refine LeB.eq ?_; congr 1; omega) | (refine LeB.eq ?_; congr 1; simp only [cond_true, cond_false]; omega)))))) (by (repeat' (first | exact True.intro | (refine And.intro ⟨_, rfl, ?_⟩ ?_; (first | exact LeV.refl _ | exact LeV.any _ | exact LeB.refl _ | (refine LeV.eq ?_; simp; done) | (refine LeV.eq ?_; congr 1; omega) | (refine LeV.eq ?_; dsimp only; congr 1; omega) | (refine LeV.eq (congrArg (AV.int _) ?_); omega) | exact LeV.nils _ | exact LeB.row (by assumption) | (refine LeB.eq ?_; congr 1; omega) | (refine LeB.eq ?_; congr 1; simp only [cond_true, cond_false]; omega)))))), ?_, ?_⟩
      · first | trivial | omega | (refine ⟨?_, ?_⟩ <;> omega)
      · omega
    try simp only [decide_eq_true_eq, decide_eq_false_iff_not, Bool.not_eq_true', Bool.not_eq_false', Bool.and_eq_true, Bool.or_eq_true, Bool.and_eq_false_iff, Bool.or_eq_false_iff, Int.not_lt, Int.not_le, Decidable.not_not] at hc3
    obtain ⟨p, hk0, hp, hpS, hp8⟩ := prevR hc1 hs hc3
    have hrow2 := dotsK_yes (ruleAtR m l) hs hc3
    rw [show ruleAtR m l k = choiceR m l k p by unfold ruleAtR; rw [hpS]] at hrow2
    have hml := mngR_len m p
    obtain ⟨c0, hc0⟩ : ∃ c0, (mngR m p)[(0 : Int).toNat]? = some c0 := ⟨_, List.getElem?_eq_getElem (by simp; omega)⟩
    have hhd : (mngR m p).headD 0 = c0 := by
      cases hq : mngR m p with
      | nil => simp [hq] at hml
      | cons a b => simp [hq] at hc0; simp [hc0]
    refine X.skip ?_
    refine X.seq ?_
    refine X.draw [9, 30, 31, 32, 33, 34, 35, 36] mo rfl ?_
    first
      | refine Chain.step [] rfl rfl rfl (Pur.stepA (P_load_box_all rfl rfl rfl rfl ty23)) rfl ?_
      | refine Chain.step [] rfl rfl rfl (Pur.stepA (P_load_ept_all rfl rfl rfl ty23)) rfl ?_
      | refine Chain.step [] rfl rfl rfl (Pur.stepA (P_load_ept_part rfl rfl rfl rfl ty23)) rfl ?_
      | refine Chain.step [] rfl rfl rfl (Pur.stepA (P_load_box_part rfl rfl rfl rfl ty23)) rfl ?_
    refine Chain.step [] rfl rfl rfl (Pur.stepA (P_move rfl)) rfl ?_
    refine Chain.step [] rfl rfl rfl (Pur.stepA (P_move rfl)) rfl ?_
    refine Chain.step [2] rfl rfl rfl (Pur.stepA (P_sub rfl rfl (IntWalk.i64_in _ (by omega)))) rfl ?_
    first
      | refine Chain.step [2, 3, 1] rfl rfl rfl (Pur.stepA (P_index_sl rfl rfl sl41 ty64 (fun _ => rfl) (by omega) (by assumption))) rfl ?_
      | refine Chain.step [2, 3, 1] rfl rfl rfl (Pur.stepA (P_index_own rfl rfl rfl sl41 ty64 (by omega) (by omega))) rfl ?_
    first
      | refine Chain.step [2, 3, 1, 4] rfl rfl rfl (Pur.stepA (P_load_ept_all rfl rfl rfl ty64)) rfl ?_
      | refine Chain.step [2, 3, 1, 4] rfl rfl rfl (Pur.stepA (P_load_ept_part rfl rfl rfl rfl ty64)) rfl ?_
    refine Chain.step [2, 3, 1, 4, 5, 0] rfl rfl rfl (A_call rfl rfl rfl (LeL.refl _) (C_tactusref09_meanings m _)) rfl ?_
    refine Chain.step [5, 4, 3, 2, 1, 0, 6] rfl rfl rfl (Pur.stepA (P_assign rfl)) rfl ?_
    refine Chain.tail [] rfl rfl ?_
    refine Ex.nil ?_
    refine X.seq ?_
    refine X.draw [10, 11, 37, 38, 39, 40, 41, 42, 43, 44, 45, 46, 47] mo rfl ?_
    first
      | refine Chain.step [] rfl rfl rfl (Pur.stepA (P_load_box_all rfl rfl rfl rfl ty23)) rfl ?_
      | refine Chain.step [] rfl rfl rfl (Pur.stepA (P_load_ept_all rfl rfl rfl ty23)) rfl ?_
      | refine Chain.step [] rfl rfl rfl (Pur.stepA (P_load_ept_part rfl rfl rfl rfl ty23)) rfl ?_
      | refine Chain.step [] rfl rfl rfl (Pur.stepA (P_load_box_part rfl rfl rfl rfl ty23)) rfl ?_
    refine Chain.step [] rfl rfl rfl (Pur.stepA (P_move rfl)) rfl ?_
    refine Chain.step [] rfl rfl rfl (Pur.stepA (P_move rfl)) rfl ?_
    refine Chain.step [2] rfl rfl rfl (Pur.stepA (P_sub rfl rfl (IntWalk.i64_in _ (by omega)))) rfl ?_
    first
      | refine Chain.step [2, 3, 1] rfl rfl rfl (Pur.stepA (P_index_sl rfl rfl sl41 ty64 (fun _ => rfl) (by omega) (by assumption))) rfl ?_
      | refine Chain.step [2, 3, 1] rfl rfl rfl (Pur.stepA (P_index_own rfl rfl rfl sl41 ty64 (by omega) (by omega))) rfl ?_
    first
      | refine Chain.step [2, 3, 1, 4] rfl rfl rfl (Pur.stepA (P_fieldAddr_ptr rfl fo64_1)) rfl ?_
      | refine Chain.step [2, 3, 1, 4] rfl rfl rfl (Pur.stepA (P_fieldAddr_ept rfl fo64_1)) rfl ?_
    first
      | refine Chain.step [2, 3, 1, 4, 5] rfl rfl rfl (Pur.stepA (P_load_box rfl rfl rfl ty3)) rfl ?_
      | refine Chain.step [2, 3, 1, 4, 5] rfl rfl rfl (Pur.stepA (P_load_ept rfl rfl rfl ty3)) rfl ?_
      | refine Chain.step [2, 3, 1, 4, 5] rfl rfl rfl (Pur.stepA (P_load_row rfl rfl (by assumption) rfl rfl ty3)) rfl ?_
    refine Chain.step [2, 3, 1, 4, 5, 6, 0] rfl rfl rfl (A_call rfl rfl rfl (LeL.refl _) (C_tactusref05_Above' m p.Value)) rfl ?_
    refine Chain.step [2, 3, 1, 4, 5, 6, 0, 7] rfl rfl rfl (Pur.stepA (P_move rfl)) rfl ?_
    refine Chain.step [2, 3, 1, 4, 5, 6, 0, 7, 8] rfl rfl rfl (Pur.stepA (P_extract rfl rfl)) rfl ?_
    refine Chain.step [2, 3, 1, 4, 5, 6, 0, 7, 8] rfl rfl rfl (Pur.stepA (P_extract rfl rfl)) rfl ?_
    refine Chain.step [8, 6, 5, 4, 3, 2, 1, 0, 7, 9] rfl rfl rfl (Pur.stepA (P_assign rfl)) rfl ?_
    refine Chain.step [9, 8, 7, 6, 5, 4, 3, 2, 1, 0, 11, 10] rfl rfl rfl (Pur.stepA (P_assign rfl)) rfl ?_
    refine Chain.tail [] rfl rfl ?_
    refine Ex.nil ?_
    refine X.block ?_
    refine X.seq ?_
    refine X.region ?_
    refine Ex.pur (P_move rfl) rfl ?_
    first
      | refine Ex.pur (P_len_sl rfl sl29) rfl ?_
      | refine Ex.pur (P_len_own rfl rfl sl29) rfl ?_
      | refine Ex.pur (P_len_nils rfl sl29) rfl ?_
    refine Ex.pur (P_eql rfl rfl) rfl ?_
    refine Ex.pur (P_assign rfl) rfl ?_
    refine Ex.nil ?_
    refine X.cond rfl (fun hc4 => ?_) (fun hc4 => ?_)
    · try simp only [decide_eq_true_eq, decide_eq_false_iff_not, Bool.not_eq_true', Bool.not_eq_false', Bool.and_eq_true, Bool.or_eq_true, Bool.and_eq_false_iff, Bool.or_eq_false_iff, Int.not_lt, Int.not_le, Decidable.not_not] at hc4
      have hch : choiceR m l k p = c0 := by unfold choiceR; rw [if_pos (by omega), hhd]
      rw [hch] at hrow2
      refine X.region ?_
      refine Ex.pur (P_move rfl) rfl ?_
      refine Ex.pur (P_move rfl) rfl ?_
      first
        | refine Ex.pur (P_index_sl rfl rfl sl29 ty3 (fun _ => rfl) (by omega) (by assumption)) rfl ?_
        | refine Ex.pur (P_index_own rfl rfl rfl sl29 ty3 (by omega) (by omega)) rfl ?_
      first
        | refine Ex.pur (P_load_box rfl rfl rfl ty3) rfl ?_
        | refine Ex.pur (P_load_ept rfl rfl rfl ty3) rfl ?_
        | refine Ex.pur (P_load_row rfl rfl (by assumption) rfl rfl ty3) rfl ?_
      refine Ex.stepA (A_buildSlice (k := 60) (enc := intE) (l := [_]) sl29 ty3 ze3 (by decide) rfl rfl rfl rfl (by decide) (by decide) (fun _ => rfl) rfl) rfl rfl ?_
      first
        | (refine Ex.stepM (M_append_own rfl rfl rfl rfl sl29 ti3 (by decide) (by decide) (fun _ => rfl) (fun _ => rfl) ?_ rfl) ?_; iterate 1 (· first | assumption | rfl | omega | (simp; done) | (simp; omega) | (simp_all; done)))
        | (refine Ex.stepM (M_append_sl rfl rfl rfl sl29 ti3 (by decide) (by decide) (fun _ => rfl) (fun _ => rfl) ?_ rfl) ?_; iterate 1 (· first | assumption | rfl | omega | (simp; done) | (simp; omega) | (simp_all; done)))
      refine Ex.pur (P_assign rfl) rfl ?_
      refine Ex.nil ?_
      refine X.region ?_
      refine Ex.pur (P_move rfl) rfl ?_
      refine Ex.pur (P_add rfl rfl (IntWalk.i64_in _ (by omega))) rfl ?_
      refine Ex.pur (P_assign rfl) rfl ?_
      refine Ex.nil ?_
      refine ⟨k + 1, Imp.of (by (repeat' (first | exact True.intro | (refine And.intro ⟨_, rfl, ?_⟩ ?_; (first | exact LeV.refl _ | exact LeV.any _ | exact LeB.refl _ | (refine LeV.eq ?_; simp; done) | (refine LeV.eq ?_; congr 1; omega) | (refine LeV.eq ?_; dsimp only; congr 1; omega) | (refine LeV.eq (congrArg (AV.int _) ?_); omega) | exact LeV.nils _ | exact LeB.row (by assumption) | (refine LeB.eq ?_; congr 1; omega) | (refine LeB.eq ?_; congr 1; simp only [cond_true, cond_false]; omega)))))) (by (repeat' (first | exact True.intro | (refine And.intro ⟨_, rfl, ?_⟩ ?_; (first | exact LeV.refl _ | exact LeV.any _ | exact LeB.refl _ | (refine LeV.eq ?_; simp; done) | (refine LeV.eq ?_; congr 1; omega) | (refine LeV.eq ?_; dsimp only; congr 1; omega) | (refine LeV.eq (congrArg (AV.int _) ?_); omega) | exact LeV.nils _ | exact LeB.row (by assumption) | (refine LeB.eq ?_; congr 1; omega) | (refine LeB.eq ?_; congr 1; simp only [cond_true, cond_false]; omega)))))), ?_, ?_⟩
      · first | trivial | omega | (refine ⟨?_, ?_⟩ <;> omega)
      · omega
    · try simp only [decide_eq_true_eq, decide_eq_false_iff_not, Bool.not_eq_true', Bool.not_eq_false', Bool.and_eq_true, Bool.or_eq_true, Bool.and_eq_false_iff, Bool.or_eq_false_iff, Int.not_lt, Int.not_le, Decidable.not_not] at hc4
      have hcs : (k + 1 = l.length ∧ nextV l k = 9) ∨ ∃ s2 : Sg, k + 1 < l.length ∧ l[((k : Int) + 1).toNat]? = some s2 ∧ nextV l k = s2.Value := by
        rcases Nat.lt_or_ge (k + 1) l.length with h | h
        · obtain ⟨s2, hs2⟩ : ∃ s2, l[((k : Int) + 1).toNat]? = some s2 := ⟨_, List.getElem?_eq_getElem (by omega)⟩
          exact .inr ⟨s2, h, hs2, by unfold nextV; rw [hs2]⟩
        · exact .inl ⟨by omega, by unfold nextV; rw [List.getElem?_eq_none (by omega)]⟩
      refine X.seq ?_
      rcases hcs with ⟨hA, hnx⟩ | ⟨s2, hA, hs3, hnx⟩
      · have hg5 : (decide ((k : Int) + 1 = (l.length : Int)) == false) = false := by simp; omega
        have hg6 : decide ((k : Int) + 1 = (l.length : Int)) = true := by simp; omega
        refine X.draw [62, 63, 64, 65, 66, 67, 68, 69, 70, 71, 72, 73, 74, 75, 76, 77, 78, 79, 80, 81, 82] mo rfl ?_
        refine Chain.step [] rfl rfl rfl (Pur.stepA (P_move rfl)) rfl ?_
        refine Chain.step [0] rfl rfl rfl (Pur.stepA (P_add rfl rfl (IntWalk.i64_in _ (by omega)))) rfl ?_
        refine Chain.step [] rfl rfl rfl (Pur.stepA (P_move rfl)) rfl ?_
        first
          | refine Chain.step [2] rfl rfl rfl (Pur.stepA (P_len_sl rfl sl41)) rfl ?_
          | refine Chain.step [2] rfl rfl rfl (Pur.stepA (P_len_own rfl rfl sl41)) rfl ?_
          | refine Chain.step [2] rfl rfl rfl (Pur.stepA (P_len_nils rfl sl41)) rfl ?_
        refine Chain.step [2, 0, 3, 1] rfl rfl rfl (Pur.stepA (P_eql rfl rfl)) rfl ?_
        refine Chain.step [2, 0, 3, 1, 4] rfl rfl rfl (Pur.stepA (P_move rfl)) rfl ?_
        (refine Chain.gF [2, 0, 3, 1, 4, 5] rfl rfl rfl rfl rfl ?_ rfl ?_; iterate 1 (· first | assumption | rfl | omega | (simp; done) | (simp; omega) | (simp_all; done)))
        (refine Chain.gF [2, 0, 3, 1, 4, 5] rfl rfl rfl rfl rfl ?_ rfl ?_; iterate 1 (· first | assumption | rfl | omega | (simp; done) | (simp; omega) | (simp_all; done)))
        (refine Chain.gF [2, 0, 3, 1, 4, 5, 7] rfl rfl rfl rfl rfl ?_ rfl ?_; iterate 1 (· first | assumption | rfl | omega | (simp; done) | (simp; omega) | (simp_all; done)))
        (refine Chain.gF [2, 0, 3, 1, 4, 7, 5, 8, 6] rfl rfl rfl rfl rfl ?_ rfl ?_; iterate 1 (· first | assumption | rfl | omega | (simp; done) | (simp; omega) | (simp_all; done)))
        (refine Chain.gF [2, 0, 3, 1, 7, 4, 8, 6, 5, 9] rfl rfl rfl rfl rfl ?_ rfl ?_; iterate 1 (· first | assumption | rfl | omega | (simp; done) | (simp; omega) | (simp_all; done)))
        (refine Chain.gF [2, 0, 7, 3, 1, 8, 6, 4, 9, 5, 10] rfl rfl rfl rfl rfl ?_ rfl ?_; iterate 1 (· first | assumption | rfl | omega | (simp; done) | (simp; omega) | (simp_all; done)))
        (refine Chain.gF [2, 0, 3, 1, 4, 5] rfl rfl rfl rfl rfl ?_ rfl ?_; iterate 1 (· first | assumption | rfl | omega | (simp; done) | (simp; omega) | (simp_all; done)))
        (refine Chain.gF [2, 0, 3, 1, 4, 5] rfl rfl rfl rfl rfl ?_ rfl ?_; iterate 1 (· first | assumption | rfl | omega | (simp; done) | (simp; omega) | (simp_all; done)))
        (refine Chain.gF [2, 0, 3, 1, 4, 5, 13] rfl rfl rfl rfl rfl ?_ rfl ?_; iterate 1 (· first | assumption | rfl | omega | (simp; done) | (simp; omega) | (simp_all; done)))
        (refine Chain.gF [2, 0, 3, 1, 4, 13, 5, 14, 12] rfl rfl rfl rfl rfl ?_ rfl ?_; iterate 1 (· first | assumption | rfl | omega | (simp; done) | (simp; omega) | (simp_all; done)))
        (refine Chain.gF [2, 0, 3, 1, 13, 4, 14, 12, 5, 15] rfl rfl rfl rfl rfl ?_ rfl ?_; iterate 1 (· first | assumption | rfl | omega | (simp; done) | (simp; omega) | (simp_all; done)))
        (refine Chain.gF [2, 0, 13, 3, 1, 14, 12, 4, 15, 5, 16] rfl rfl rfl rfl rfl ?_ rfl ?_; iterate 1 (· first | assumption | rfl | omega | (simp; done) | (simp; omega) | (simp_all; done)))
        (refine Chain.gF [13, 7, 2, 0, 14, 12, 8, 6, 3, 1, 15, 9, 4, 16, 10, 5, 17, 11] rfl rfl rfl rfl rfl ?_ rfl ?_; iterate 1 (· first | assumption | rfl | omega | (simp; done) | (simp; omega) | (simp_all; done)))
        (refine Chain.step [13, 7, 14, 12, 8, 6, 15, 9, 2, 0, 16, 10, 3, 1, 17, 11, 4, 18, 5] rfl rfl rfl (Pur.stepA (P_pick_true rfl ?_ rfl)) rfl ?_; iterate 1 (· first | assumption | rfl | omega | (simp; done) | (simp; omega) | (simp_all; done)))
        refine Chain.step [13, 7, 14, 12, 8, 6, 15, 9, 2, 0, 16, 10, 3, 1, 17, 11, 4, 18, 5, 19] rfl rfl rfl (Pur.stepA (P_assign rfl)) rfl ?_
        refine Chain.tail [] rfl rfl ?_
        refine Ex.nil ?_
        refine X.cond rfl (fun hc5 => ?_) (fun hc5 => ?_)
        · try simp only [decide_eq_true_eq, decide_eq_false_iff_not, Bool.not_eq_true', Bool.not_eq_false', Bool.and_eq_true, Bool.or_eq_true, Bool.and_eq_false_iff, Bool.or_eq_false_iff, Int.not_lt, Int.not_le, Decidable.not_not] at hc5
          have hch : choiceR m l k p = ownV (mngR m p) p.Value := by unfold choiceR; rw [if_neg (by omega), if_pos (by omega)]
          rw [hch] at hrow2
          refine X.region ?_
          refine Ex.pur (P_move rfl) rfl ?_
          refine Ex.pur (P_move rfl) rfl ?_
          refine Ex.pur (P_move rfl) rfl ?_
          refine Ex.pur (P_move rfl) rfl ?_
          refine Ex.pur (P_sub rfl rfl (IntWalk.i64_in _ (by omega))) rfl ?_
          first
            | refine Ex.pur (P_index_sl rfl rfl sl41 ty64 (fun _ => rfl) (by omega) (by assumption)) rfl ?_
            | refine Ex.pur (P_index_own rfl rfl rfl sl41 ty64 (by omega) (by omega)) rfl ?_
          first
            | refine Ex.pur (P_fieldAddr_ptr rfl fo64_1) rfl ?_
            | refine Ex.pur (P_fieldAddr_ept rfl fo64_1) rfl ?_
          first
            | refine Ex.pur (P_load_box rfl rfl rfl ty3) rfl ?_
            | refine Ex.pur (P_load_ept rfl rfl rfl ty3) rfl ?_
            | refine Ex.pur (P_load_row rfl rfl (by assumption) rfl rfl ty3) rfl ?_
          refine Ex.call rfl rfl rfl (C_tactusref09_own (mngR m p) p.Value (by omega)) rfl ?_
          refine Ex.stepA (A_buildSlice (k := 92) (enc := intE) (l := [_]) sl29 ty3 ze3 (by decide) rfl rfl rfl rfl (by decide) (by decide) (fun _ => rfl) rfl) rfl rfl ?_
          first
            | (refine Ex.stepM (M_append_own rfl rfl rfl rfl sl29 ti3 (by decide) (by decide) (fun _ => rfl) (fun _ => rfl) ?_ rfl) ?_; iterate 1 (· first | assumption | rfl | omega | (simp; done) | (simp; omega) | (simp_all; done)))
            | (refine Ex.stepM (M_append_sl rfl rfl rfl sl29 ti3 (by decide) (by decide) (fun _ => rfl) (fun _ => rfl) ?_ rfl) ?_; iterate 1 (· first | assumption | rfl | omega | (simp; done) | (simp; omega) | (simp_all; done)))
          refine Ex.pur (P_assign rfl) rfl ?_
          refine Ex.nil ?_
          refine X.region ?_
          refine Ex.pur (P_move rfl) rfl ?_
          refine Ex.pur (P_add rfl rfl (IntWalk.i64_in _ (by omega))) rfl ?_
          refine Ex.pur (P_assign rfl) rfl ?_
          refine Ex.nil ?_
          refine ⟨k + 1, Imp.of (by (repeat' (first | exact True.intro | (refine And.intro ⟨_, rfl, ?_⟩ ?_; (first | exact LeV.refl _ | exact LeV.any _ | exact LeB.refl _ | (refine LeV.eq ?_; simp; done) | (refine LeV.eq ?_; congr 1; omega) | (refine LeV.eq ?_; dsimp only; congr 1; omega) | (refine LeV.eq (congrArg (AV.int _) ?_); omega) | exact LeV.nils _ | exact LeB.row (by assumption) | (refine LeB.eq ?_; congr 1; omega) | (refine LeB.eq ?_; congr 1; simp only [cond_true, cond_false]; omega)))))) (by (repeat' (first | exact True.intro | (refine And.intro ⟨_, rfl, ?_⟩ ?_; (first | exact LeV.refl _ | exact LeV.any _ | exact LeB.refl _ | (refine LeV.eq ?_; simp; done) | (refine LeV.eq ?_; congr 1; omega) | (refine LeV.eq ?_; dsimp only; congr 1; omega) | (refine LeV.eq (congrArg (AV.int _) ?_); omega) | exact LeV.nils _ | exact LeB.row (by assumption) | (refine LeB.eq ?_; congr 1; omega) | (refine LeB.eq ?_; congr 1; simp only [cond_true, cond_false]; omega)))))), ?_, ?_⟩
          · first | trivial | omega | (refine ⟨?_, ?_⟩ <;> omega)
          · omega
        · try simp only [decide_eq_true_eq, decide_eq_false_iff_not, Bool.not_eq_true', Bool.not_eq_false', Bool.and_eq_true, Bool.or_eq_true, Bool.and_eq_false_iff, Bool.or_eq_false_iff, Int.not_lt, Int.not_le, Decidable.not_not] at hc5
          simp at hc5
      · have hg5 : (decide ((k : Int) + 1 = (l.length : Int)) == false) = true := by simp; omega
        have hg6 : decide ((k : Int) + 1 = (l.length : Int)) = false := by simp; omega
        refine X.draw [62, 63, 64, 65, 66, 67, 68, 69, 70, 71, 72, 73, 74, 75, 76, 77, 78, 79, 80, 81, 82] mo rfl ?_
        refine Chain.step [] rfl rfl rfl (Pur.stepA (P_move rfl)) rfl ?_
        refine Chain.step [0] rfl rfl rfl (Pur.stepA (P_add rfl rfl (IntWalk.i64_in _ (by omega)))) rfl ?_
        refine Chain.step [] rfl rfl rfl (Pur.stepA (P_move rfl)) rfl ?_
        first
          | refine Chain.step [2] rfl rfl rfl (Pur.stepA (P_len_sl rfl sl41)) rfl ?_
          | refine Chain.step [2] rfl rfl rfl (Pur.stepA (P_len_own rfl rfl sl41)) rfl ?_
          | refine Chain.step [2] rfl rfl rfl (Pur.stepA (P_len_nils rfl sl41)) rfl ?_
        refine Chain.step [2, 0, 3, 1] rfl rfl rfl (Pur.stepA (P_eql rfl rfl)) rfl ?_
        refine Chain.step [2, 0, 3, 1, 4] rfl rfl rfl (Pur.stepA (P_move rfl)) rfl ?_
        (refine Chain.gT [2, 0, 3, 1, 4, 5] rfl rfl rfl rfl rfl ?_ (Pur.stepA (P_move rfl)) rfl ?_; iterate 1 (· first | assumption | rfl | omega | (simp; done) | (simp; omega) | (simp_all; done)))
        (refine Chain.gT [2, 0, 3, 1, 4, 5] rfl rfl rfl rfl rfl ?_ (Pur.stepA (P_move rfl)) rfl ?_; iterate 1 (· first | assumption | rfl | omega | (simp; done) | (simp; omega) | (simp_all; done)))
        (refine Chain.gT [2, 0, 3, 1, 4, 5, 7] rfl rfl rfl rfl rfl ?_ (Pur.stepA (P_add rfl rfl (IntWalk.i64_in _ (by omega)))) rfl ?_; iterate 1 (· first | assumption | rfl | omega | (simp; done) | (simp; omega) | (simp_all; done)))
        first
          | (refine Chain.gT [2, 0, 3, 1, 4, 7, 5, 8, 6] rfl rfl rfl rfl rfl ?_ (Pur.stepA (P_index_sl rfl rfl sl41 ty64 (fun _ => rfl) (by omega) (by assumption))) rfl ?_; iterate 1 (· first | assumption | rfl | omega | (simp; done) | (simp; omega) | (simp_all; done)))
          | (refine Chain.gT [2, 0, 3, 1, 4, 7, 5, 8, 6] rfl rfl rfl rfl rfl ?_ (Pur.stepA (P_index_own rfl rfl rfl sl41 ty64 (by omega) (by omega))) rfl ?_; iterate 1 (· first | assumption | rfl | omega | (simp; done) | (simp; omega) | (simp_all; done)))
        first
          | (refine Chain.gT [2, 0, 3, 1, 7, 4, 8, 6, 5, 9] rfl rfl rfl rfl rfl ?_ (Pur.stepA (P_fieldAddr_ptr rfl fo64_1)) rfl ?_; iterate 1 (· first | assumption | rfl | omega | (simp; done) | (simp; omega) | (simp_all; done)))
          | (refine Chain.gT [2, 0, 3, 1, 7, 4, 8, 6, 5, 9] rfl rfl rfl rfl rfl ?_ (Pur.stepA (P_fieldAddr_ept rfl fo64_1)) rfl ?_; iterate 1 (· first | assumption | rfl | omega | (simp; done) | (simp; omega) | (simp_all; done)))
        first
          | (refine Chain.gT [2, 0, 7, 3, 1, 8, 6, 4, 9, 5, 10] rfl rfl rfl rfl rfl ?_ (Pur.stepA (P_load_box rfl rfl rfl ty3)) rfl ?_; iterate 1 (· first | assumption | rfl | omega | (simp; done) | (simp; omega) | (simp_all; done)))
          | (refine Chain.gT [2, 0, 7, 3, 1, 8, 6, 4, 9, 5, 10] rfl rfl rfl rfl rfl ?_ (Pur.stepA (P_load_ept rfl rfl rfl ty3)) rfl ?_; iterate 1 (· first | assumption | rfl | omega | (simp; done) | (simp; omega) | (simp_all; done)))
          | (refine Chain.gT [2, 0, 7, 3, 1, 8, 6, 4, 9, 5, 10] rfl rfl rfl rfl rfl ?_ (Pur.stepA (P_load_row rfl rfl (by assumption) rfl rfl ty3)) rfl ?_; iterate 1 (· first | assumption | rfl | omega | (simp; done) | (simp; omega) | (simp_all; done)))
        (refine Chain.gT [2, 0, 3, 1, 4, 5] rfl rfl rfl rfl rfl ?_ (Pur.stepA (P_move rfl)) rfl ?_; iterate 1 (· first | assumption | rfl | omega | (simp; done) | (simp; omega) | (simp_all; done)))
        (refine Chain.gT [2, 0, 3, 1, 4, 5] rfl rfl rfl rfl rfl ?_ (Pur.stepA (P_move rfl)) rfl ?_; iterate 1 (· first | assumption | rfl | omega | (simp; done) | (simp; omega) | (simp_all; done)))
        (refine Chain.gT [2, 0, 3, 1, 4, 5, 13] rfl rfl rfl rfl rfl ?_ (Pur.stepA (P_sub rfl rfl (IntWalk.i64_in _ (by omega)))) rfl ?_; iterate 1 (· first | assumption | rfl | omega | (simp; done) | (simp; omega) | (simp_all; done)))
        first
          | (refine Chain.gT [2, 0, 3, 1, 4, 13, 5, 14, 12] rfl rfl rfl rfl rfl ?_ (Pur.stepA (P_index_sl rfl rfl sl41 ty64 (fun _ => rfl) (by omega) (by assumption))) rfl ?_; iterate 1 (· first | assumption | rfl | omega | (simp; done) | (simp; omega) | (simp_all; done)))
          | (refine Chain.gT [2, 0, 3, 1, 4, 13, 5, 14, 12] rfl rfl rfl rfl rfl ?_ (Pur.stepA (P_index_own rfl rfl rfl sl41 ty64 (by omega) (by omega))) rfl ?_; iterate 1 (· first | assumption | rfl | omega | (simp; done) | (simp; omega) | (simp_all; done)))
        first
          | (refine Chain.gT [2, 0, 3, 1, 13, 4, 14, 12, 5, 15] rfl rfl rfl rfl rfl ?_ (Pur.stepA (P_fieldAddr_ptr rfl fo64_1)) rfl ?_; iterate 1 (· first | assumption | rfl | omega | (simp; done) | (simp; omega) | (simp_all; done)))
          | (refine Chain.gT [2, 0, 3, 1, 13, 4, 14, 12, 5, 15] rfl rfl rfl rfl rfl ?_ (Pur.stepA (P_fieldAddr_ept rfl fo64_1)) rfl ?_; iterate 1 (· first | assumption | rfl | omega | (simp; done) | (simp; omega) | (simp_all; done)))
        first
          | (refine Chain.gT [2, 0, 13, 3, 1, 14, 12, 4, 15, 5, 16] rfl rfl rfl rfl rfl ?_ (Pur.stepA (P_load_box rfl rfl rfl ty3)) rfl ?_; iterate 1 (· first | assumption | rfl | omega | (simp; done) | (simp; omega) | (simp_all; done)))
          | (refine Chain.gT [2, 0, 13, 3, 1, 14, 12, 4, 15, 5, 16] rfl rfl rfl rfl rfl ?_ (Pur.stepA (P_load_ept rfl rfl rfl ty3)) rfl ?_; iterate 1 (· first | assumption | rfl | omega | (simp; done) | (simp; omega) | (simp_all; done)))
          | (refine Chain.gT [2, 0, 13, 3, 1, 14, 12, 4, 15, 5, 16] rfl rfl rfl rfl rfl ?_ (Pur.stepA (P_load_row rfl rfl (by assumption) rfl rfl ty3)) rfl ?_; iterate 1 (· first | assumption | rfl | omega | (simp; done) | (simp; omega) | (simp_all; done)))
        (refine Chain.gT [13, 7, 2, 0, 14, 12, 8, 6, 3, 1, 15, 9, 4, 16, 10, 5, 17, 11] rfl rfl rfl rfl rfl ?_ (Pur.stepA (P_gtr rfl rfl)) rfl ?_; iterate 1 (· first | assumption | rfl | omega | (simp; done) | (simp; omega) | (simp_all; done)))
        (refine Chain.step [13, 7, 14, 12, 8, 6, 15, 9, 2, 0, 16, 10, 3, 1, 17, 11, 4, 18, 5] rfl rfl rfl (Pur.stepA (P_pick_false rfl ?_ rfl)) rfl ?_; iterate 1 (· first | assumption | rfl | omega | (simp; done) | (simp; omega) | (simp_all; done)))
        refine Chain.step [13, 7, 14, 12, 8, 6, 15, 9, 2, 0, 16, 10, 3, 1, 17, 11, 4, 18, 5, 19] rfl rfl rfl (Pur.stepA (P_assign rfl)) rfl ?_
        refine Chain.tail [] rfl rfl ?_
        refine Ex.nil ?_
        refine X.cond rfl (fun hc6 => ?_) (fun hc6 => ?_)
        · try simp only [decide_eq_true_eq, decide_eq_false_iff_not, Bool.not_eq_true', Bool.not_eq_false', Bool.and_eq_true, Bool.or_eq_true, Bool.and_eq_false_iff, Bool.or_eq_false_iff, Int.not_lt, Int.not_le, Decidable.not_not] at hc6
          have hch : choiceR m l k p = ownV (mngR m p) p.Value := by unfold choiceR; rw [if_neg (by omega), if_pos (by omega)]
          rw [hch] at hrow2
          refine X.region ?_
          refine Ex.pur (P_move rfl) rfl ?_
          refine Ex.pur (P_move rfl) rfl ?_
          refine Ex.pur (P_move rfl) rfl ?_
          refine Ex.pur (P_move rfl) rfl ?_
          refine Ex.pur (P_sub rfl rfl (IntWalk.i64_in _ (by omega))) rfl ?_
          first
            | refine Ex.pur (P_index_sl rfl rfl sl41 ty64 (fun _ => rfl) (by omega) (by assumption)) rfl ?_
            | refine Ex.pur (P_index_own rfl rfl rfl sl41 ty64 (by omega) (by omega)) rfl ?_
          first
            | refine Ex.pur (P_fieldAddr_ptr rfl fo64_1) rfl ?_
            | refine Ex.pur (P_fieldAddr_ept rfl fo64_1) rfl ?_
          first
            | refine Ex.pur (P_load_box rfl rfl rfl ty3) rfl ?_
            | refine Ex.pur (P_load_ept rfl rfl rfl ty3) rfl ?_
            | refine Ex.pur (P_load_row rfl rfl (by assumption) rfl rfl ty3) rfl ?_
          refine Ex.call rfl rfl rfl (C_tactusref09_own (mngR m p) p.Value (by omega)) rfl ?_
          refine Ex.stepA (A_buildSlice (k := 92) (enc := intE) (l := [_]) sl29 ty3 ze3 (by decide) rfl rfl rfl rfl (by decide) (by decide) (fun _ => rfl) rfl) rfl rfl ?_
          first
            | (refine Ex.stepM (M_append_own rfl rfl rfl rfl sl29 ti3 (by decide) (by decide) (fun _ => rfl) (fun _ => rfl) ?_ rfl) ?_; iterate 1 (· first | assumption | rfl | omega | (simp; done) | (simp; omega) | (simp_all; done)))
            | (refine Ex.stepM (M_append_sl rfl rfl rfl sl29 ti3 (by decide) (by decide) (fun _ => rfl) (fun _ => rfl) ?_ rfl) ?_; iterate 1 (· first | assumption | rfl | omega | (simp; done) | (simp; omega) | (simp_all; done)))
          refine Ex.pur (P_assign rfl) rfl ?_
          refine Ex.nil ?_
          refine X.region ?_
          refine Ex.pur (P_move rfl) rfl ?_
          refine Ex.pur (P_add rfl rfl (IntWalk.i64_in _ (by omega))) rfl ?_
          refine Ex.pur (P_assign rfl) rfl ?_
          refine Ex.nil ?_
          refine ⟨k + 1, Imp.of (by (repeat' (first | exact True.intro | (refine And.intro ⟨_, rfl, ?_⟩ ?_; (first | exact LeV.refl _ | exact LeV.any _ | exact LeB.refl _ | (refine LeV.eq ?_; simp; done) | (refine LeV.eq ?_; congr 1; omega) | (refine LeV.eq ?_; dsimp only; congr 1; omega) | (refine LeV.eq (congrArg (AV.int _) ?_); omega) | exact LeV.nils _ | exact LeB.row (by assumption) | (refine LeB.eq ?_; congr 1; omega) | (refine LeB.eq ?_; congr 1; simp only [cond_true, cond_false]; omega)))))) (by (repeat' (first | exact True.intro | (refine And.intro ⟨_, rfl, ?_⟩ ?_; (first | exact LeV.refl _ | exact LeV.any _ | exact LeB.refl _ | (refine LeV.eq ?_; simp; done) | (refine LeV.eq ?_; congr 1; omega) | (refine LeV.eq ?_; dsimp only; congr 1; omega) | (refine LeV.eq (congrArg (AV.int _) ?_); omega) | exact LeV.nils _ | exact LeB.row (by assumption) | (refine LeB.eq ?_; congr 1; omega) | (refine LeB.eq ?_; congr 1; simp only [cond_true, cond_false]; omega)))))), ?_, ?_⟩
          · first | trivial | omega | (refine ⟨?_, ?_⟩ <;> omega)
          · omega
        · try simp only [decide_eq_true_eq, decide_eq_false_iff_not, Bool.not_eq_true', Bool.not_eq_false', Bool.and_eq_true, Bool.or_eq_true, Bool.and_eq_false_iff, Bool.or_eq_false_iff, Int.not_lt, Int.not_le, Decidable.not_not] at hc6
          have hch : choiceR m l k p = m.aV p.Value := by unfold choiceR; rw [if_neg (by omega), if_neg (by omega)]
          rw [hch] at hrow2
          refine X.region ?_
          refine Ex.pur (P_move rfl) rfl ?_
          refine Ex.pur (P_move rfl) rfl ?_
          refine Ex.stepA (A_buildSlice (k := 50) (enc := intE) (l := [_]) sl29 ty3 ze3 (by decide) rfl rfl rfl rfl (by decide) (by decide) (fun _ => rfl) rfl) rfl rfl ?_
          first
            | (refine Ex.stepM (M_append_own rfl rfl rfl rfl sl29 ti3 (by decide) (by decide) (fun _ => rfl) (fun _ => rfl) ?_ rfl) ?_; iterate 1 (· first | assumption | rfl | omega | (simp; done) | (simp; omega) | (simp_all; done)))
            | (refine Ex.stepM (M_append_sl rfl rfl rfl sl29 ti3 (by decide) (by decide) (fun _ => rfl) (fun _ => rfl) ?_ rfl) ?_; iterate 1 (· first | assumption | rfl | omega | (simp; done) | (simp; omega) | (simp_all; done)))
          refine Ex.pur (P_assign rfl) rfl ?_
          refine Ex.nil ?_
          refine X.region ?_
          refine Ex.pur (P_move rfl) rfl ?_
          refine Ex.pur (P_add rfl rfl (IntWalk.i64_in _ (by omega))) rfl ?_
          refine Ex.pur (P_assign rfl) rfl ?_
          refine Ex.nil ?_
          refine ⟨k + 1, Imp.of (by (repeat' (first | exact True.intro | (refine And.intro ⟨_, rfl, ?_⟩ ?_; (first | exact LeV.refl _ | exact LeV.any _ | exact LeB.refl _ | (refine LeV.eq ?_; simp; done) | (refine LeV.eq ?_; congr 1; omega) | (refine LeV.eq ?_; dsimp only; congr 1; omega) | (refine LeV.eq (congrArg (AV.int _) ?_); omega) | exact LeV.nils _ | exact LeB.row (by assumption) | (refine LeB.eq ?_; congr 1; omega) | (refine LeB.eq ?_; congr 1; simp only [cond_true, cond_false]; omega)))))) (by (repeat' (first | exact True.intro | (refine And.intro ⟨_, rfl, ?_⟩ ?_; (first | exact LeV.refl _ | exact LeV.any _ | exact LeB.refl _ | (refine LeV.eq ?_; simp; done) | (refine LeV.eq ?_; congr 1; omega) | (refine LeV.eq ?_; dsimp only; congr 1; omega) | (refine LeV.eq (congrArg (AV.int _) ?_); omega) | exact LeV.nils _ | exact LeB.row (by assumption) | (refine LeB.eq ?_; congr 1; omega) | (refine LeB.eq ?_; congr 1; simp only [cond_true, cond_false]; omega)))))), ?_, ?_⟩
          · first | trivial | omega | (refine ⟨?_, ?_⟩ <;> omega)
          · omega
  · try simp only [decide_eq_true_eq, decide_eq_false_iff_not, Bool.not_eq_true', Bool.not_eq_false', Bool.and_eq_true, Bool.or_eq_true, Bool.and_eq_false_iff, Bool.or_eq_false_iff, Int.not_lt, Int.not_le, Decidable.not_not] at hc2
    have hkl : k = l.length := by omega
    subst hkl
    have hfin : (dotsK l l.length).map (ruleAtR m l) = ruleR m l := rfl
    refine X.exit ?_
    refine X.seq ?_
    refine X.region ?_
    refine Ex.pur (P_move rfl) rfl ?_
    refine Ex.pur (P_assign rfl) rfl ?_
    refine Ex.pur (P_assign rfl) rfl ?_
    refine Ex.nil ?_
    refine X.ret ?_
    refine RetQ.imp (Imp.freeze (k := 7) rfl) ?_
    refine RetQ.ret (.many (by decide) (.cons (.tmp rfl (LeV.eq ?_)) (.cons (.tmp rfl (LeV.eq ?_)) .nil)))
    all_goals (first | (simp [hc1]; done) | (rw [if_pos hc1, ← hfin]; rfl) | (rw [if_neg hc1]) | (rw [hc1]; rfl) | rfl)
theorem C_tactusref09_Check' (m : Mn) (l : List Sg) (hl : l.length ≤ 60) : Fn Try.prog 41 [mnA m, sgsA l] (iv (ckD m l)) := by
  rw [ckD_R]; exact C_tactusref09_Check m l hl
theorem C_tactusref09_Meanings' (m : Mn) (l : List Sg) (hl : l.length ≤ 60) : Fn Try.prog 33 [mnA m, sgsA l] (.tup [listsA (if ckD m l = 0 then mnsD m l else []), iv (ckD m l)]) := by
  have h := C_tactusref09_Meanings m l hl
  rw [← ckD_R] at h
  by_cases e : ckD m l = 0
  · rw [if_pos e] at h ⊢; rw [mnsD_R e]; exact h
  · rw [if_neg e] at h ⊢; exact h
theorem C_tactusref09_Rule' (m : Mn) (l : List Sg) (hl : l.length ≤ 60) : Fn Try.prog 36 [mnA m, sgsA l] (.tup [intsA (if ckD m l = 0 then ruleD m l else []), iv (ckD m l)]) := by
  have h := C_tactusref09_Rule m l hl
  rw [← ckD_R] at h
  by_cases e : ckD m l = 0
  · rw [if_pos e] at h ⊢; rw [ruleD_R e]; exact h
  · rw [if_neg e] at h ⊢; exact h
theorem C_tactusref09_Count (m : Mn) (l : List Sg) (hl : l.length ≤ 60) : Fn Try.prog 39 [mnA m, sgsA l] (.tup [iv (cntV m l), iv (cntE m l)]) := by
  refine Fn.intro (ts := [(0, mnA m), (1, sgsA l)]) (rv := [.tmp 4, .tmp 5]) (n := 35) (by kernel_rfl) Try.func39 rfl Try.ntmps39 rfl rfl rfl (by simp) (fun g w d => ?_)
  refine X.seq ?_
  refine X.region ?_
  refine Ex.stepA (A_box_agg (k := 2) rfl rfl) rfl rfl ?_
  refine Ex.pur (P_assign rfl) rfl ?_
  refine Ex.pur (P_assign rfl) rfl ?_
  refine Ex.nil ?_
  refine X.seq ?_
  refine X.region ?_
  first
    | refine Ex.pur (P_load_box_all rfl rfl rfl rfl ty23) rfl ?_
    | refine Ex.pur (P_load_ept_all rfl rfl rfl ty23) rfl ?_
    | refine Ex.pur (P_load_ept_part rfl rfl rfl rfl ty23) rfl ?_
    | refine Ex.pur (P_load_box_part rfl rfl rfl rfl ty23) rfl ?_
  refine Ex.pur (P_move rfl) rfl ?_
  refine Ex.call rfl rfl rfl (C_tactusref09_Meanings' m l hl) rfl ?_
  refine Ex.pur (P_move rfl) rfl ?_
  refine Ex.pur (P_extract rfl rfl) rfl ?_
  refine Ex.pur (P_extract rfl rfl) rfl ?_
  refine Ex.pur (P_assign rfl) rfl ?_
  refine Ex.pur (P_assign rfl) rfl ?_
  refine Ex.nil ?_
  refine X.seq ?_
  refine X.seq ?_
  refine X.region ?_
  refine Ex.pur (P_move rfl) rfl ?_
  refine Ex.pur (P_neq rfl rfl) rfl ?_
  refine Ex.nil ?_
  refine X.cond rfl (fun hc1 => ?_) (fun hc1 => ?_)
  · try simp only [decide_eq_true_eq, decide_eq_false_iff_not, Bool.not_eq_true', Bool.not_eq_false', Bool.and_eq_true, Bool.or_eq_true, Bool.and_eq_false_iff, Bool.or_eq_false_iff, Int.not_lt, Int.not_le, Decidable.not_not] at hc1
    refine X.seq ?_
    refine X.region ?_
    refine Ex.pur (P_move rfl) rfl ?_
    refine Ex.pur (P_assign rfl) rfl ?_
    refine Ex.pur (P_assign rfl) rfl ?_
    refine Ex.nil ?_
    refine X.ret ?_
    refine RetQ.ret (.many (by decide) (.cons (.tmp rfl (LeV.eq ?_)) (.cons (.tmp rfl (LeV.eq ?_)) .nil)))
    all_goals (first | (unfold cntV; rw [if_neg hc1]; done) | (unfold cntE; rw [if_neg hc1]; done))
  try simp only [decide_eq_true_eq, decide_eq_false_iff_not, Bool.not_eq_true', Bool.not_eq_false', Bool.and_eq_true, Bool.or_eq_true, Bool.and_eq_false_iff, Bool.or_eq_false_iff, Int.not_lt, Int.not_le, Decidable.not_not] at hc1
  refine X.skip ?_
  refine X.seq ?_
  have hms : (if ckD m l = 0 then mnsD m l else []) = mnsD m l := if_pos hc1
  have hml := mnsD_len m l
  rw [hms]
  refine X.region ?_
  refine Ex.pur (P_assign rfl) rfl ?_
  refine Ex.nil ?_
  refine X.seq ?_
  refine X.seq ?_
  refine X.region ?_
  refine Ex.pur (P_assign rfl) rfl ?_
  refine Ex.nil ?_
  refine X.block ?_
  refine X.loop (ι := Nat × Int) (fun (p : Nat × Int) => ⟨[(6, listsA (mnsD m l)), (8, iv p.2), (9, iv (p.1 : Int))], []⟩) (fun (p : Nat × Int) => p.1 ≤ (mnsD m l).length ∧ 0 ≤ p.2 ∧ p.2 ≤ 64 ∧ cntF 1 (mnsD m l) = cntF p.2 ((mnsD m l).drop p.1)) (fun (p : Nat × Int) => (mnsD m l).length - p.1) (0, 1) ?_ ?_ (fun p hk => ?_)
  · exact Imp.of (by (repeat' (first | exact True.intro | (refine And.intro ⟨_, rfl, ?_⟩ ?_; (first | exact LeV.refl _ | exact LeV.any _ | exact LeB.refl _ | (refine LeV.eq ?_; simp; done) | (refine LeV.eq ?_; congr 1; omega) | (refine LeV.eq ?_; dsimp only; congr 1; omega) | (refine LeV.eq (congrArg (AV.int _) ?_); omega) | exact LeV.nils _ | exact LeB.row (by assumption) | (refine LeB.eq ?_; congr 1; omega) | (refine LeB.eq ?_; congr 1; simp only [cond_true, cond_false]; omega)))))) (by (repeat' (first | exact True.intro | (refine And.intro ⟨_, rfl, ?_⟩ ?_; (first | exact LeV.refl _ | exact LeV.any _ | exact LeB.refl _ | (refine LeV.eq ?_; simp; done) | (refine LeV.eq ?_; congr 1; omega) | (refine LeV.eq ?_; dsimp only; congr 1; omega) | (refine LeV.eq (congrArg (AV.int _) ?_); omega) | exact LeV.nils _ | exact LeB.row (by assumption) | (refine LeB.eq ?_; congr 1; omega) | (refine LeB.eq ?_; congr 1; simp only [cond_true, cond_false]; omega))))))
  · exact ⟨by simp, by simp, by simp, rfl⟩
  obtain ⟨k, n⟩ := p
  obtain ⟨hk1, hn0, hn1, hk2⟩ := hk
  dsimp only at *
  refine X.seq ?_
  refine X.seq ?_
  refine X.region ?_
  refine Ex.pur (P_move rfl) rfl ?_
  refine Ex.pur (P_move rfl) rfl ?_
  first
    | refine Ex.pur (P_len_sl rfl sl43) rfl ?_
    | refine Ex.pur (P_len_own rfl rfl sl43) rfl ?_
    | refine Ex.pur (P_len_nils rfl sl43) rfl ?_
  refine Ex.pur (P_lss rfl rfl) rfl ?_
  refine Ex.nil ?_
  refine X.cond rfl (fun hc2 => ?_) (fun hc2 => ?_)
  · try simp only [decide_eq_true_eq, decide_eq_false_iff_not, Bool.not_eq_true', Bool.not_eq_false', Bool.and_eq_true, Bool.or_eq_true, Bool.and_eq_false_iff, Bool.or_eq_false_iff, Int.not_lt, Int.not_le, Decidable.not_not] at hc2
    obtain ⟨x, hx⟩ : ∃ x, (mnsD m l)[k]? = some x := ⟨_, List.getElem?_eq_getElem (by omega)⟩
    have hx2 : (mnsD m l)[(k : Int).toNat]? = some x := by simpa using hx
    have hxl := mnsD_len2 (List.mem_of_getElem? hx)
    have hb0 : 0 ≤ n * (x.length : Int) := Int.mul_nonneg hn0 (by omega)
    have hb1 : n * (x.length : Int) ≤ 64 * 2 := Int.mul_le_mul hn1 (by omega) (by omega) (by omega)
    refine X.skip ?_
    refine X.seq ?_
    refine X.block ?_
    refine X.seq ?_
    refine X.region ?_
    refine Ex.pur (P_move rfl) rfl ?_
    refine Ex.pur (P_move rfl) rfl ?_
    refine Ex.pur (P_move rfl) rfl ?_
    first
      | refine Ex.pur (P_index_sl rfl rfl sl43 ty29 (fun _ => rfl) (by omega) (by assumption)) rfl ?_
      | refine Ex.pur (P_index_own rfl rfl rfl sl43 ty29 (by omega) (by omega)) rfl ?_
    first
      | refine Ex.pur (P_load_box rfl rfl rfl ty29) rfl ?_
      | refine Ex.pur (P_load_ept rfl rfl rfl ty29) rfl ?_
      | refine Ex.pur (P_load_row rfl rfl (by assumption) rfl rfl ty29) rfl ?_
    first
      | refine Ex.pur (P_len_sl rfl sl29) rfl ?_
      | refine Ex.pur (P_len_own rfl rfl sl29) rfl ?_
      | refine Ex.pur (P_len_nils rfl sl29) rfl ?_
    refine Ex.pur (P_mul rfl rfl (IntWalk.i64_in _ (by omega))) rfl ?_
    refine Ex.pur (P_assign rfl) rfl ?_
    refine Ex.nil ?_
    refine X.seq ?_
    refine X.region ?_
    refine Ex.pur (P_move rfl) rfl ?_
    refine Ex.pur (P_gtr rfl rfl) rfl ?_
    refine Ex.nil ?_
    refine X.cond rfl (fun hc3 => ?_) (fun hc3 => ?_)
    · try simp only [decide_eq_true_eq, decide_eq_false_iff_not, Bool.not_eq_true', Bool.not_eq_false', Bool.and_eq_true, Bool.or_eq_true, Bool.and_eq_false_iff, Bool.or_eq_false_iff, Int.not_lt, Int.not_le, Decidable.not_not] at hc3
      have hC : cntF 1 (mnsD m l) = n * (x.length : Int) := by rw [hk2, cntF_step hx, if_pos (by omega)]
      refine X.seq ?_
      refine X.region ?_
      refine Ex.pur (P_assign rfl) rfl ?_
      refine Ex.pur (P_assign rfl) rfl ?_
      refine Ex.nil ?_
      refine X.ret ?_
      refine RetQ.ret (.many (by decide) (.cons (.tmp rfl (LeV.eq ?_)) (.cons (.tmp rfl (LeV.eq ?_)) .nil)))
      all_goals (first | (unfold cntV; rw [if_pos hc1, hC, if_pos (by omega)]; done) | (unfold cntE; rw [if_pos hc1, hC, if_pos (by omega)]; done))
    try simp only [decide_eq_true_eq, decide_eq_false_iff_not, Bool.not_eq_true', Bool.not_eq_false', Bool.and_eq_true, Bool.or_eq_true, Bool.and_eq_false_iff, Bool.or_eq_false_iff, Int.not_lt, Int.not_le, Decidable.not_not] at hc3
    refine X.skip ?_
    refine X.region ?_
    refine Ex.pur (P_move rfl) rfl ?_
    refine Ex.pur (P_add rfl rfl (IntWalk.i64_in _ (by omega))) rfl ?_
    refine Ex.pur (P_assign rfl) rfl ?_
    refine Ex.nil ?_
    refine ⟨(k + 1, n * (x.length : Int)), Imp.of (by (repeat' (first | exact True.intro | (refine And.intro ⟨_, rfl, ?_⟩ ?_; (first | exact LeV.refl _ | exact LeV.any _ | exact LeB.refl _ | (refine LeV.eq ?_; simp; done) | (refine LeV.eq ?_; congr 1; omega) | (refine LeV.eq ?_; dsimp only; congr 1; omega) | (refine LeV.eq (congrArg (AV.int _) ?_); omega) | exact LeV.nils _ | exact LeB.row (by assumption) | (refine LeB.eq ?_; congr 1; omega) | (refine LeB.eq ?_; congr 1; simp only [cond_true, cond_false]; omega)))))) (by (repeat' (first | exact True.intro | (refine And.intro ⟨_, rfl, ?_⟩ ?_; (first | exact LeV.refl _ | exact LeV.any _ | exact LeB.refl _ | (refine LeV.eq ?_; simp; done) | (refine LeV.eq ?_; congr 1; omega) | (refine LeV.eq ?_; dsimp only; congr 1; omega) | (refine LeV.eq (congrArg (AV.int _) ?_); omega) | exact LeV.nils _ | exact LeB.row (by assumption) | (refine LeB.eq ?_; congr 1; omega) | (refine LeB.eq ?_; congr 1; simp only [cond_true, cond_false]; omega)))))), ?_, ?_⟩
    · exact ⟨by omega, by omega, by omega, by rw [hk2, cntF_step hx, if_neg (by omega)]⟩
    · dsimp only; omega
  · try simp only [decide_eq_true_eq, decide_eq_false_iff_not, Bool.not_eq_true', Bool.not_eq_false', Bool.and_eq_true, Bool.or_eq_true, Bool.and_eq_false_iff, Bool.or_eq_false_iff, Int.not_lt, Int.not_le, Decidable.not_not] at hc2
    have hC : cntF 1 (mnsD m l) = n := by rw [hk2, List.drop_of_length_le (by omega)]; rfl
    refine X.exit ?_
    refine X.seq ?_
    refine X.region ?_
    refine Ex.pur (P_move rfl) rfl ?_
    refine Ex.pur (P_assign rfl) rfl ?_
    refine Ex.pur (P_assign rfl) rfl ?_
    refine Ex.nil ?_
    refine X.ret ?_
    refine RetQ.ret (.many (by decide) (.cons (.tmp rfl (LeV.eq ?_)) (.cons (.tmp rfl (LeV.eq ?_)) .nil)))
    all_goals (first | (unfold cntV; rw [if_pos hc1, hC, if_neg (by omega)]; done) | (unfold cntE; rw [if_pos hc1, hC, if_neg (by omega)]; done))
end Go.Rse
