/-
  Walks: the cuts and additions of chosen meanings.
-/
import Derived.Test.YteecbmgddacioaaDot7
import Derived.Test.YteecbmgddacioaaRse23
import Derived.Test.YteecbmgddacioaaRse27
namespace Go.Rse
open Go Go.Proofs
set_option linter.unusedVariables false
set_option linter.unusedSimpArgs false
attribute [local irreducible] Pur StepA StepM Ex X ExG Fn Imp LeV LeB FnO It YStep
theorem fidx_mem (x : Int) (l : List Int) : decide (0 ≤ fidx (fun u => decide (x = u)) l) = decide (x ∈ l) := by
  by_cases h : x ∈ l
  · have : l.findIdx (fun u => decide (x = u)) < l.length := List.findIdx_lt_length_of_exists ⟨x, h, by simp⟩
    simp only [fidx, if_pos this, h]; simp
  · have h2 : l.findIdx (fun u => decide (x = u)) = l.length := List.findIdx_eq_length.2 fun u hu => decide_eq_false fun e => h (e ▸ hu)
    have : ¬ l.findIdx (fun u => decide (x = u)) < l.length := by omega
    simp only [fidx, if_neg this, h]; simp
theorem C_slices_Index_int_int (l : List Int) (x : Int) (hl : l.length ≤ 4000000000) : Fn Try.prog 160 [intsA l, iv x] (iv (fidx (fun u => decide (x = u)) l)) := by
  refine Fn.intro (ts := [(0, intsA l), (1, iv x)]) (rv := [.tmp 4]) (n := 19) (by kernel_rfl) Try.func160 rfl Try.ntmps160 rfl rfl rfl (by simp) (fun g w d => ?_)
  refine X.seq ?_
  refine X.region ?_
  refine Ex.pur (P_assign rfl) rfl ?_
  refine Ex.nil ?_
  refine X.seq ?_
  refine X.seq ?_
  refine X.region ?_
  refine Ex.pur (P_move rfl) rfl ?_
  first
    | refine Ex.pur (P_len_sl rfl sl29) rfl ?_
    | refine Ex.pur (P_len_own rfl rfl sl29) rfl ?_
    | refine Ex.pur (P_len_nils rfl sl29) rfl ?_
  refine Ex.pur (P_move rfl) rfl ?_
  refine Ex.nil ?_
  refine X.block ?_
  refine X.loop (ι := Nat) (fun (k : Nat) => ⟨[(0, intsA l), (1, iv x), (7, iv l.length), (8, iv (k : Int))], []⟩) (fun (k : Nat) => k ≤ l.length ∧ ∀ i u, i < k → l[i]? = some u → decide (x = u) = false) (fun (k : Nat) => l.length - k) 0 ?_ ?_ (fun k hk => ?_)
  · exact Imp.of (by (repeat' (first | exact True.intro | (refine And.intro ⟨_, rfl, ?_⟩ ?_; (first | exact LeV.refl _ | exact LeV.any _ | exact LeB.refl _ | (refine LeV.eq ?_; simp; done) | (refine LeV.eq ?_; congr 1; omega) | (refine LeV.eq ?_; dsimp only; congr 1; omega) | (refine LeV.eq (congrArg (AV.int _) ?_); omega) | exact LeV.nils _ | exact LeB.row (by assumption) | (refine LeB.eq ?_; congr 1; omega) | (refine LeB.eq ?_; congr 1; simp only [cond_true, cond_false]; omega)))))) (by (repeat' (first | exact True.intro | (refine And.intro ⟨_, rfl, ?_⟩ ?_; (first | exact LeV.refl _ | exact LeV.any _ | exact LeB.refl _ | (refine LeV.eq ?_; simp; done) | (refine LeV.eq ?_; congr 1; omega) | (refine LeV.eq ?_; dsimp only; congr 1; omega) | (refine LeV.eq (congrArg (AV.int _) ?_); omega) | exact LeV.nils _ | exact LeB.row (by assumption) | (refine LeB.eq ?_; congr 1; omega) | (refine LeB.eq ?_; congr 1; simp only [cond_true, cond_false]; omega))))))
  · exact ⟨by omega, fun i u h => absurd h (Nat.not_lt_zero i)⟩
  obtain ⟨hk1, hk2⟩ := hk
  refine X.seq ?_
  refine X.region ?_
  refine Ex.pur (P_lss rfl rfl) rfl ?_
  refine Ex.nil ?_
  refine X.seq ?_
  refine X.cond rfl (fun hc1 => ?_) (fun hc1 => ?_)
  · try simp only [decide_eq_true_eq, decide_eq_false_iff_not, Bool.not_eq_true', Bool.not_eq_false', Bool.and_eq_true, Bool.or_eq_true, Bool.and_eq_false_iff, Bool.or_eq_false_iff, Int.not_lt, Int.not_le, Decidable.not_not] at hc1
    obtain ⟨v, hv⟩ : ∃ v, l[k]? = some v := ⟨_, List.getElem?_eq_getElem (by omega)⟩
    have hv2 : l[(k : Int).toNat]? = some v := by simpa using hv
    refine X.skip ?_
    refine X.seq ?_
    refine X.block ?_
    refine X.seq ?_
    refine X.region ?_
    refine Ex.pur (P_move rfl) rfl ?_
    refine Ex.pur (P_assign rfl) rfl ?_
    refine Ex.nil ?_
    refine X.seq ?_
    refine X.region ?_
    refine Ex.pur (P_move rfl) rfl ?_
    refine Ex.pur (P_move rfl) rfl ?_
    refine Ex.pur (P_move rfl) rfl ?_
    first
      | refine Ex.pur (P_index_sl rfl rfl sl29 ty3 (fun _ => rfl) (by omega) (by assumption)) rfl ?_
      | refine Ex.pur (P_index_own rfl rfl rfl sl29 ty3 (by omega) (by omega)) rfl ?_
    first
      | refine Ex.pur (P_load_box rfl rfl rfl ty3) rfl ?_
      | refine Ex.pur (P_load_ept rfl rfl rfl ty3) rfl ?_
      | refine Ex.pur (P_load_row rfl rfl (by assumption) rfl rfl ty3) rfl ?_
    refine Ex.pur (P_eql rfl rfl) rfl ?_
    refine Ex.nil ?_
    refine X.cond rfl (fun hc2 => ?_) (fun hc2 => ?_)
    · try simp only [decide_eq_true_eq, decide_eq_false_iff_not, Bool.not_eq_true', Bool.not_eq_false', Bool.and_eq_true, Bool.or_eq_true, Bool.and_eq_false_iff, Bool.or_eq_false_iff, Int.not_lt, Int.not_le, Decidable.not_not] at hc2
      refine X.seq ?_
      refine X.region ?_
      refine Ex.pur (P_move rfl) rfl ?_
      refine Ex.pur (P_assign rfl) rfl ?_
      refine Ex.nil ?_
      refine X.ret ?_
      refine RetQ.ret (.one (.tmp rfl (LeV.eq ?_)))
      all_goals (congr 1; exact (fidx_hit hv (by simpa using hc2) hk2).symm)
    try simp only [decide_eq_true_eq, decide_eq_false_iff_not, Bool.not_eq_true', Bool.not_eq_false', Bool.and_eq_true, Bool.or_eq_true, Bool.and_eq_false_iff, Bool.or_eq_false_iff, Int.not_lt, Int.not_le, Decidable.not_not] at hc2
    refine X.skip ?_
    refine X.region ?_
    refine Ex.pur (P_add rfl rfl (IntWalk.i64_in _ (by omega))) rfl ?_
    refine Ex.pur (P_move rfl) rfl ?_
    refine Ex.nil ?_
    refine ⟨k + 1, Imp.of (by (repeat' (first | exact True.intro | (refine And.intro ⟨_, rfl, ?_⟩ ?_; (first | exact LeV.refl _ | exact LeV.any _ | exact LeB.refl _ | (refine LeV.eq ?_; simp; done) | (refine LeV.eq ?_; congr 1; omega) | (refine LeV.eq ?_; dsimp only; congr 1; omega) | (refine LeV.eq (congrArg (AV.int _) ?_); omega) | exact LeV.nils _ | exact LeB.row (by assumption) | (refine LeB.eq ?_; congr 1; omega) | (refine LeB.eq ?_; congr 1; simp only [cond_true, cond_false]; omega)))))) (by (repeat' (first | exact True.intro | (refine And.intro ⟨_, rfl, ?_⟩ ?_; (first | exact LeV.refl _ | exact LeV.any _ | exact LeB.refl _ | (refine LeV.eq ?_; simp; done) | (refine LeV.eq ?_; congr 1; omega) | (refine LeV.eq ?_; dsimp only; congr 1; omega) | (refine LeV.eq (congrArg (AV.int _) ?_); omega) | exact LeV.nils _ | exact LeB.row (by assumption) | (refine LeB.eq ?_; congr 1; omega) | (refine LeB.eq ?_; congr 1; simp only [cond_true, cond_false]; omega)))))), ?_, ?_⟩
    · refine ⟨by omega, fun i u hi hu => ?_⟩
      rcases Nat.lt_succ_iff_lt_or_eq.1 hi with h | h
      · exact hk2 i u h hu
      · subst h; rw [hv] at hu; injection hu with hu; subst hu; simpa using hc2
    · omega
  · try simp only [decide_eq_true_eq, decide_eq_false_iff_not, Bool.not_eq_true', Bool.not_eq_false', Bool.and_eq_true, Bool.or_eq_true, Bool.and_eq_false_iff, Bool.or_eq_false_iff, Int.not_lt, Int.not_le, Decidable.not_not] at hc1
    refine X.exit ?_
    refine X.seq ?_
    refine X.region ?_
    refine Ex.pur (P_assign rfl) rfl ?_
    refine Ex.nil ?_
    refine X.ret ?_
    refine RetQ.ret (.one (.tmp rfl (LeV.eq ?_)))
    all_goals (congr 1; exact (fidx_none (fun i u hi => hk2 i u (by omega))).symm)
theorem C_slices_Contains_int_int (l : List Int) (x : Int) (hl : l.length ≤ 4000000000) : Fn Try.prog 126 [intsA l, iv x] (.bool (decide (x ∈ l))) := by
  refine Fn.intro (ts := [(0, intsA l), (1, iv x)]) (rv := [.tmp 4]) (n := 9) (by kernel_rfl) Try.func126 rfl Try.ntmps126 rfl rfl rfl (by simp) (fun g w d => ?_)
  refine X.seq ?_
  refine X.region ?_
  refine Ex.pur (P_assign rfl) rfl ?_
  refine Ex.nil ?_
  refine X.seq ?_
  refine X.region ?_
  refine Ex.pur (P_move rfl) rfl ?_
  refine Ex.pur (P_move rfl) rfl ?_
  refine Ex.call rfl rfl rfl (C_slices_Index_int_int l x hl) rfl ?_
  refine Ex.pur (P_geq rfl rfl) rfl ?_
  refine Ex.pur (P_assign rfl) rfl ?_
  refine Ex.nil ?_
  refine X.ret ?_
  refine RetQ.ret (.one (.tmp rfl (LeV.eq ?_)))
  all_goals (congr 1; exact fidx_mem x l)
theorem C_dot_Marks_1 (v : Int) (a : List Int) (b : List Bool) (ha : 1 ≤ a.length) (hb : 1 ≤ b.length) (ha2 : a.length ≤ 1000) (hb2 : b.length ≤ 1000) : FnO Try.prog 127 [iv v, .ptr 2000000 0 0 0, .ptr 2000001 0 0 0] [(2000000, .box [.own 2000002] 29), (2000001, .box [.own 2000003] 56), (2000002, .row intE a 3 1), (2000003, .row boolE b 4 1)] [2000000, 2000001, 2000002, 2000003] (.tup []) [(2000000, .box [.own 2000002] 29), (2000001, .box [.own 2000003] 56), (2000002, .row intE (a.set ((a.length : Int) - 1).toNat v) 3 1), (2000003, .row boolE (b.set ((b.length : Int) - 1).toNat (decide (v = 0))) 4 1)] := by
  refine FnO.intro (ts := [(0, iv v), (1, .ptr 2000000 0 0 0), (2, .ptr 2000001 0 0 0)]) (rv := []) (n := 17) (cs := [.ptr 2000000 0 0 0, .ptr 2000001 0 0 0, .own 2000002, .own 2000003]) (by kernel_rfl) Try.func127 rfl Try.ntmps127 rfl rfl (by simp) rfl rfl rfl rfl (fun g w d vs => ?_)
  refine X.drawP [⟨0, 4, .own 2000002, []⟩, ⟨1, 5, .own 2000002, []⟩, ⟨2, 6, iv a.length, [1]⟩, ⟨3, 7, iv ((a.length : Int) - 1), [1, 2]⟩, ⟨4, 8, .own 2000003, []⟩, ⟨5, 9, .own 2000003, []⟩, ⟨6, 10, iv b.length, [5]⟩, ⟨7, 11, iv ((b.length : Int) - 1), [5, 6]⟩, ⟨8, 12, iv v, []⟩, ⟨9, 13, iv v, []⟩, ⟨10, 14, .bool (decide (v = 0)), [9]⟩, ⟨11, 15, .ptr 2000002 1 ((a.length : Int) - 1).toNat 0, [8, 2, 1, 3, 0]⟩, ⟨13, 16, .ptr 2000003 1 ((b.length : Int) - 1).toNat 0, [12, 11, 10, 9, 8, 6, 5, 3, 2, 1, 0, 7, 4]⟩] [(12, [3, 2, 1, 0, 8, 11]), (14, [11, 9, 8, 7, 6, 5, 4, 3, 2, 1, 0, 12, 10, 13])] (fun j => ⟨[(0, iv v), (1, .ptr 2000000 0 0 0), (2, .ptr 2000001 0 0 0)], match j with | 0 => [(1000001, .hold vs [.ptr 2000000 0 0 0, .ptr 2000001 0 0 0, .own 2000002, .own 2000003]), (2000000, .box [.own 2000002] 29), (2000001, .box [.own 2000003] 56), (2000002, .row intE (a) 3 1), (2000003, .row boolE (b) 4 1)] | 1 => [(1000001, .hold vs [.ptr 2000000 0 0 0, .ptr 2000001 0 0 0, .own 2000002, .own 2000003]), (2000000, .box [.own 2000002] 29), (2000001, .box [.own 2000003] 56), (2000002, .row intE (a.set ((a.length : Int) - 1).toNat v) 3 1), (2000003, .row boolE (b) 4 1)] | _ => [(1000001, .hold vs [.ptr 2000000 0 0 0, .ptr 2000001 0 0 0, .own 2000002, .own 2000003]), (2000000, .box [.own 2000002] 29), (2000001, .box [.own 2000003] 56), (2000002, .row intE (a.set ((a.length : Int) - 1).toNat v) 3 1), (2000003, .row boolE (b.set ((b.length : Int) - 1).toNat (decide (v = 0))) 4 1)]⟩) mo (by kernel_rfl) (Imp.SP0 (Imp.of (by (repeat' (first | exact True.intro | (refine And.intro ⟨_, rfl, ?_⟩ ?_; (first | exact LeV.refl _ | exact LeV.any _ | exact LeB.refl _ | (refine LeV.eq ?_; simp; done) | (refine LeV.eq ?_; congr 1; omega) | (refine LeV.eq ?_; dsimp only; congr 1; omega) | (refine LeV.eq (congrArg (AV.int _) ?_); omega) | exact LeV.nils _ | exact LeB.row (by assumption) | (refine LeB.eq ?_; congr 1; omega) | (refine LeB.eq ?_; congr 1; simp only [cond_true, cond_false]; omega)))))) (by (repeat' (first | exact True.intro | (refine And.intro ⟨_, rfl, ?_⟩ ?_; (first | exact LeV.refl _ | exact LeV.any _ | exact LeB.refl _ | (refine LeV.eq ?_; simp; done) | (refine LeV.eq ?_; congr 1; omega) | (refine LeV.eq ?_; dsimp only; congr 1; omega) | (refine LeV.eq (congrArg (AV.int _) ?_); omega) | exact LeV.nils _ | exact LeB.row (by assumption) | (refine LeB.eq ?_; congr 1; omega) | (refine LeB.eq ?_; congr 1; simp only [cond_true, cond_false]; omega)))))))) (fun j hj => ?_) (fun j c hc β hβ => ?_) ?_
  · rcases j with _ | _ | _ | j
    · first
        | refine ⟨.inr ⟨_, rfl, rfl, rfl, rfl, P_load_box rfl rfl rfl ty29⟩, ?_⟩
        | refine ⟨.inr ⟨_, rfl, rfl, rfl, rfl, P_load_ept rfl rfl rfl ty29⟩, ?_⟩
        | refine ⟨.inr ⟨_, rfl, rfl, rfl, rfl, P_load_row rfl rfl (by assumption) rfl rfl ty29⟩, ?_⟩
      first
        | refine ⟨.inr ⟨_, rfl, rfl, rfl, rfl, P_load_box rfl rfl rfl ty29⟩, ?_⟩
        | refine ⟨.inr ⟨_, rfl, rfl, rfl, rfl, P_load_ept rfl rfl rfl ty29⟩, ?_⟩
        | refine ⟨.inr ⟨_, rfl, rfl, rfl, rfl, P_load_row rfl rfl (by assumption) rfl rfl ty29⟩, ?_⟩
      first
        | refine ⟨.inr ⟨_, rfl, rfl, rfl, rfl, P_len_sl rfl sl29⟩, ?_⟩
        | refine ⟨.inr ⟨_, rfl, rfl, rfl, rfl, P_len_own rfl rfl sl29⟩, ?_⟩
        | refine ⟨.inr ⟨_, rfl, rfl, rfl, rfl, P_len_nils rfl sl29⟩, ?_⟩
      refine ⟨.inr ⟨_, rfl, rfl, rfl, rfl, P_sub rfl rfl (IntWalk.i64_in _ (by omega))⟩, ?_⟩
      first
        | refine ⟨.inr ⟨_, rfl, rfl, rfl, rfl, P_load_box rfl rfl rfl ty56⟩, ?_⟩
        | refine ⟨.inr ⟨_, rfl, rfl, rfl, rfl, P_load_ept rfl rfl rfl ty56⟩, ?_⟩
        | refine ⟨.inr ⟨_, rfl, rfl, rfl, rfl, P_load_row rfl rfl (by assumption) rfl rfl ty56⟩, ?_⟩
      first
        | refine ⟨.inr ⟨_, rfl, rfl, rfl, rfl, P_load_box rfl rfl rfl ty56⟩, ?_⟩
        | refine ⟨.inr ⟨_, rfl, rfl, rfl, rfl, P_load_ept rfl rfl rfl ty56⟩, ?_⟩
        | refine ⟨.inr ⟨_, rfl, rfl, rfl, rfl, P_load_row rfl rfl (by assumption) rfl rfl ty56⟩, ?_⟩
      first
        | refine ⟨.inr ⟨_, rfl, rfl, rfl, rfl, P_len_sl rfl sl56⟩, ?_⟩
        | refine ⟨.inr ⟨_, rfl, rfl, rfl, rfl, P_len_own rfl rfl sl56⟩, ?_⟩
        | refine ⟨.inr ⟨_, rfl, rfl, rfl, rfl, P_len_nils rfl sl56⟩, ?_⟩
      refine ⟨.inr ⟨_, rfl, rfl, rfl, rfl, P_sub rfl rfl (IntWalk.i64_in _ (by omega))⟩, ?_⟩
      refine ⟨.inr ⟨_, rfl, rfl, rfl, rfl, P_move rfl⟩, ?_⟩
      refine ⟨.inr ⟨_, rfl, rfl, rfl, rfl, P_move rfl⟩, ?_⟩
      refine ⟨.inr ⟨_, rfl, rfl, rfl, rfl, P_eql rfl rfl⟩, ?_⟩
      first
        | refine ⟨.inr ⟨_, rfl, rfl, rfl, rfl, P_index_sl rfl rfl sl29 ty3 (fun _ => rfl) (by omega) (by assumption)⟩, ?_⟩
        | refine ⟨.inr ⟨_, rfl, rfl, rfl, rfl, P_index_own rfl rfl rfl sl29 ty3 (by omega) (by omega)⟩, ?_⟩
      refine ⟨.inl rfl, ?_⟩
      exact True.intro
    · refine ⟨.inl rfl, ?_⟩
      refine ⟨.inl rfl, ?_⟩
      refine ⟨.inl rfl, ?_⟩
      refine ⟨.inl rfl, ?_⟩
      first
        | refine ⟨.inr ⟨_, rfl, rfl, rfl, rfl, P_load_box rfl rfl rfl ty56⟩, ?_⟩
        | refine ⟨.inr ⟨_, rfl, rfl, rfl, rfl, P_load_ept rfl rfl rfl ty56⟩, ?_⟩
        | refine ⟨.inr ⟨_, rfl, rfl, rfl, rfl, P_load_row rfl rfl (by assumption) rfl rfl ty56⟩, ?_⟩
      first
        | refine ⟨.inr ⟨_, rfl, rfl, rfl, rfl, P_load_box rfl rfl rfl ty56⟩, ?_⟩
        | refine ⟨.inr ⟨_, rfl, rfl, rfl, rfl, P_load_ept rfl rfl rfl ty56⟩, ?_⟩
        | refine ⟨.inr ⟨_, rfl, rfl, rfl, rfl, P_load_row rfl rfl (by assumption) rfl rfl ty56⟩, ?_⟩
      first
        | refine ⟨.inr ⟨_, rfl, rfl, rfl, rfl, P_len_sl rfl sl56⟩, ?_⟩
        | refine ⟨.inr ⟨_, rfl, rfl, rfl, rfl, P_len_own rfl rfl sl56⟩, ?_⟩
        | refine ⟨.inr ⟨_, rfl, rfl, rfl, rfl, P_len_nils rfl sl56⟩, ?_⟩
      refine ⟨.inr ⟨_, rfl, rfl, rfl, rfl, P_sub rfl rfl (IntWalk.i64_in _ (by omega))⟩, ?_⟩
      refine ⟨.inl rfl, ?_⟩
      refine ⟨.inr ⟨_, rfl, rfl, rfl, rfl, P_move rfl⟩, ?_⟩
      refine ⟨.inr ⟨_, rfl, rfl, rfl, rfl, P_eql rfl rfl⟩, ?_⟩
      refine ⟨.inl rfl, ?_⟩
      first
        | refine ⟨.inr ⟨_, rfl, rfl, rfl, rfl, P_index_sl rfl rfl sl56 ty4 (fun _ => rfl) (by omega) (by assumption)⟩, ?_⟩
        | refine ⟨.inr ⟨_, rfl, rfl, rfl, rfl, P_index_own rfl rfl rfl sl56 ty4 (by omega) (by omega)⟩, ?_⟩
      exact True.intro
    · refine ⟨.inl rfl, ?_⟩
      refine ⟨.inl rfl, ?_⟩
      refine ⟨.inl rfl, ?_⟩
      refine ⟨.inl rfl, ?_⟩
      refine ⟨.inl rfl, ?_⟩
      refine ⟨.inl rfl, ?_⟩
      refine ⟨.inl rfl, ?_⟩
      refine ⟨.inl rfl, ?_⟩
      refine ⟨.inl rfl, ?_⟩
      refine ⟨.inl rfl, ?_⟩
      refine ⟨.inl rfl, ?_⟩
      refine ⟨.inl rfl, ?_⟩
      refine ⟨.inl rfl, ?_⟩
      exact True.intro
    · exact absurd (show j + 3 ≤ 2 from hj) (by omega)
  · rcases j with _ | _ | j
    · obtain rfl : (12, [3, 2, 1, 0, 8, 11]) = c := by injection hc
      refine Step1.mk rfl (StepM.pre (st0 := ⟨[(4, .own 2000002), (5, .own 2000002), (6, iv a.length), (7, iv ((a.length : Int) - 1)), (8, .ifb (β 4) (.own 2000003)), (9, .ifb (β 5) (.own 2000003)), (10, .ifb (β 6) (iv b.length)), (11, .ifb (β 7) (iv ((b.length : Int) - 1))), (12, iv v), (13, .ifb (β 9) (iv v)), (14, .ifb (β 10) (.bool (decide (v = 0)))), (15, .ptr 2000002 1 ((a.length : Int) - 1).toNat 0), (16, .ifb (β 13) (.ptr 2000003 1 ((b.length : Int) - 1).toNat 0)), (0, iv v), (1, .ptr 2000000 0 0 0), (2, .ptr 2000001 0 0 0)], [(1000001, .hold vs [.ptr 2000000 0 0 0, .ptr 2000001 0 0 0, .own 2000002, .own 2000003]), (2000000, .box [.own 2000002] 29), (2000001, .box [.own 2000003] 56), (2000002, .row intE (a) 3 1), (2000003, .row boolE (b) 4 1)]⟩) (Imp.of (by (repeat' (first | exact True.intro | (refine And.intro ⟨_, rfl, ?_⟩ ?_; (first | exact LeV.refl _ | exact LeV.ifbT (hβ _ (by simp)) | exact LeV.toIfb _ _ | exact LeV.any _ | exact LeB.refl _ | (refine LeV.eq ?_; simp; done) | (refine LeV.eq ?_; congr 1; omega) | (refine LeV.eq ?_; dsimp only; congr 1; omega) | (refine LeV.eq (congrArg (AV.int _) ?_); omega) | exact LeV.nils _ | exact LeB.row (by assumption) | (refine LeB.eq ?_; congr 1; omega) | (refine LeB.eq ?_; congr 1; simp only [cond_true, cond_false]; omega)))))) (by (repeat' (first | exact True.intro | (refine And.intro ⟨_, rfl, ?_⟩ ?_; (first | exact LeV.refl _ | exact LeV.ifbT (hβ _ (by simp)) | exact LeV.toIfb _ _ | exact LeV.any _ | exact LeB.refl _ | (refine LeV.eq ?_; simp; done) | (refine LeV.eq ?_; congr 1; omega) | (refine LeV.eq ?_; dsimp only; congr 1; omega) | (refine LeV.eq (congrArg (AV.int _) ?_); omega) | exact LeV.nils _ | exact LeB.row (by assumption) | (refine LeB.eq ?_; congr 1; omega) | (refine LeB.eq ?_; congr 1; simp only [cond_true, cond_false]; omega))))))) ?_)
      refine StepM.imp (M_store_row v rfl rfl (fun _ => rfl) (by decide) (by omega) rfl rfl rfl rfl rfl ty3) (Imp.of (by (repeat' (first | exact True.intro | (refine And.intro ⟨_, rfl, ?_⟩ ?_; (first | exact LeV.refl _ | exact LeV.ifbT (hβ _ (by simp)) | exact LeV.toIfb _ _ | exact LeV.any _ | exact LeB.refl _ | (refine LeV.eq ?_; simp; done) | (refine LeV.eq ?_; congr 1; omega) | (refine LeV.eq ?_; dsimp only; congr 1; omega) | (refine LeV.eq (congrArg (AV.int _) ?_); omega) | exact LeV.nils _ | exact LeB.row (by assumption) | (refine LeB.eq ?_; congr 1; omega) | (refine LeB.eq ?_; congr 1; simp only [cond_true, cond_false]; omega)))))) (by (repeat' (first | exact True.intro | (refine And.intro ⟨_, rfl, ?_⟩ ?_; (first | exact LeV.refl _ | exact LeV.ifbT (hβ _ (by simp)) | exact LeV.toIfb _ _ | exact LeV.any _ | exact LeB.refl _ | (refine LeV.eq ?_; simp; done) | (refine LeV.eq ?_; congr 1; omega) | (refine LeV.eq ?_; dsimp only; congr 1; omega) | (refine LeV.eq (congrArg (AV.int _) ?_); omega) | exact LeV.nils _ | exact LeB.row (by assumption) | (refine LeB.eq ?_; congr 1; omega) | (refine LeB.eq ?_; congr 1; simp only [cond_true, cond_false]; omega)))))))
    · obtain rfl : (14, [11, 9, 8, 7, 6, 5, 4, 3, 2, 1, 0, 12, 10, 13]) = c := by injection hc
      refine Step1.mk rfl (StepM.pre (st0 := ⟨[(4, .own 2000002), (5, .own 2000002), (6, iv a.length), (7, iv ((a.length : Int) - 1)), (8, .own 2000003), (9, .own 2000003), (10, iv b.length), (11, iv ((b.length : Int) - 1)), (12, iv v), (13, iv v), (14, .bool (decide (v = 0))), (15, .ptr 2000002 1 ((a.length : Int) - 1).toNat 0), (16, .ptr 2000003 1 ((b.length : Int) - 1).toNat 0), (0, iv v), (1, .ptr 2000000 0 0 0), (2, .ptr 2000001 0 0 0)], [(1000001, .hold vs [.ptr 2000000 0 0 0, .ptr 2000001 0 0 0, .own 2000002, .own 2000003]), (2000000, .box [.own 2000002] 29), (2000001, .box [.own 2000003] 56), (2000002, .row intE (a.set ((a.length : Int) - 1).toNat v) 3 1), (2000003, .row boolE (b) 4 1)]⟩) (Imp.of (by (repeat' (first | exact True.intro | (refine And.intro ⟨_, rfl, ?_⟩ ?_; (first | exact LeV.refl _ | exact LeV.ifbT (hβ _ (by simp)) | exact LeV.toIfb _ _ | exact LeV.any _ | exact LeB.refl _ | (refine LeV.eq ?_; simp; done) | (refine LeV.eq ?_; congr 1; omega) | (refine LeV.eq ?_; dsimp only; congr 1; omega) | (refine LeV.eq (congrArg (AV.int _) ?_); omega) | exact LeV.nils _ | exact LeB.row (by assumption) | (refine LeB.eq ?_; congr 1; omega) | (refine LeB.eq ?_; congr 1; simp only [cond_true, cond_false]; omega)))))) (by (repeat' (first | exact True.intro | (refine And.intro ⟨_, rfl, ?_⟩ ?_; (first | exact LeV.refl _ | exact LeV.ifbT (hβ _ (by simp)) | exact LeV.toIfb _ _ | exact LeV.any _ | exact LeB.refl _ | (refine LeV.eq ?_; simp; done) | (refine LeV.eq ?_; congr 1; omega) | (refine LeV.eq ?_; dsimp only; congr 1; omega) | (refine LeV.eq (congrArg (AV.int _) ?_); omega) | exact LeV.nils _ | exact LeB.row (by assumption) | (refine LeB.eq ?_; congr 1; omega) | (refine LeB.eq ?_; congr 1; simp only [cond_true, cond_false]; omega))))))) ?_)
      refine StepM.imp (M_store_row (decide (v = 0)) rfl rfl (fun _ => rfl) (by decide) (by omega) rfl rfl rfl rfl rfl ty4) (Imp.of (by (repeat' (first | exact True.intro | (refine And.intro ⟨_, rfl, ?_⟩ ?_; (first | exact LeV.refl _ | exact LeV.ifbT (hβ _ (by simp)) | exact LeV.toIfb _ _ | exact LeV.any _ | exact LeB.refl _ | (refine LeV.eq ?_; simp; done) | (refine LeV.eq ?_; congr 1; omega) | (refine LeV.eq ?_; dsimp only; congr 1; omega) | (refine LeV.eq (congrArg (AV.int _) ?_); omega) | exact LeV.nils _ | exact LeB.row (by assumption) | (refine LeB.eq ?_; congr 1; omega) | (refine LeB.eq ?_; congr 1; simp only [cond_true, cond_false]; omega)))))) (by (repeat' (first | exact True.intro | (refine And.intro ⟨_, rfl, ?_⟩ ?_; (first | exact LeV.refl _ | exact LeV.ifbT (hβ _ (by simp)) | exact LeV.toIfb _ _ | exact LeV.any _ | exact LeB.refl _ | (refine LeV.eq ?_; simp; done) | (refine LeV.eq ?_; congr 1; omega) | (refine LeV.eq ?_; dsimp only; congr 1; omega) | (refine LeV.eq (congrArg (AV.int _) ?_); omega) | exact LeV.nils _ | exact LeB.row (by assumption) | (refine LeB.eq ?_; congr 1; omega) | (refine LeB.eq ?_; congr 1; simp only [cond_true, cond_false]; omega)))))))
    · exact absurd hc (by simp)
  refine RetQO.mk (ts := []) (.inl rfl) (Imp.of (by (repeat' (first | exact True.intro | (refine And.intro ⟨_, rfl, ?_⟩ ?_; (first | exact LeV.refl _ | exact LeV.any _ | exact LeB.refl _ | (refine LeV.eq ?_; simp; done) | (refine LeV.eq ?_; congr 1; omega) | (refine LeV.eq ?_; dsimp only; congr 1; omega) | (refine LeV.eq (congrArg (AV.int _) ?_); omega) | exact LeV.nils _ | exact LeB.row (by assumption) | (refine LeB.eq ?_; congr 1; omega) | (refine LeB.eq ?_; congr 1; simp only [cond_true, cond_false]; omega)))))) (by (repeat' (first | exact True.intro | (refine And.intro ⟨_, rfl, ?_⟩ ?_; (first | exact LeV.refl _ | exact LeV.any _ | exact LeB.refl _ | (refine LeV.eq ?_; simp; done) | (refine LeV.eq ?_; congr 1; omega) | (refine LeV.eq ?_; dsimp only; congr 1; omega) | (refine LeV.eq (congrArg (AV.int _) ?_); omega) | exact LeV.nils _ | exact LeB.row (by assumption) | (refine LeB.eq ?_; congr 1; omega) | (refine LeB.eq ?_; congr 1; simp only [cond_true, cond_false]; omega))))))) (.many (by decide) .nil)
end Go.Rse
