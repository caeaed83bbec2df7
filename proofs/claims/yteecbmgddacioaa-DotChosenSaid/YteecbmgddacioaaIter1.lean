/-
  Walks: iterators of the library and of mensurations.
-/
import Derived.Test.YteecbmgddacioaaRse18
import Derived.Test.YteecbmgddacioaaMens1
namespace Go.Rse
open Go Go.Proofs
set_option linter.unusedVariables false
set_option linter.unusedSimpArgs false
attribute [local irreducible] Pur StepA StepM Ex X ExG Fn Imp LeV LeB FnO It YStep
/-- What a backward range over ints hands out. -/
def backI (l : List Int) : List (List AV) := (List.range l.length).map fun (j : Nat) => [iv ((l.length : Int) - 1 - (j : Int)), iv (l.getD (l.length - 1 - j) 0)]
theorem backI_get {l : List Int} {k : Nat} (h : k < l.length) : (backI l)[k]? = some [iv ((l.length : Int) - 1 - k), iv (l.getD (l.length - 1 - k) 0)] := by
  simp [backI, h]
theorem backI_inv {l : List Int} {j : Nat} {zs : List AV} (h : (backI l)[j]? = some zs) : j < l.length ∧ zs = [iv ((l.length : Int) - 1 - j), iv (l.getD (l.length - 1 - j) 0)] := by
  have hlt : j < l.length := by have := (List.getElem?_eq_some_iff.1 h).1; simpa [backI] using this
  rw [backI_get hlt] at h
  exact ⟨hlt, by simpa using h.symm⟩
theorem backI_len (l : List Int) : (backI l).length = l.length := by simp [backI]
theorem C_slices_Backward_int_int_1 (l : List Int) (hl : l.length ≤ 4000000000) : It Try.prog 210 [.ept (fun _ : Unit => [.sl intE l]) () 0] (backI l) := by
  refine It.intro (ts := fun lY => [(0, .yv lY), (1, .ept (fun _ : Unit => [.sl intE l]) () 0)]) (n := 19) (by kernel_rfl) Try.func210 rfl Try.ntmps210 rfl (fun _ => rfl) (by simp) (fun g w d ds Y lY hY => ?_)
  refine X.seq ?_
  refine X.region ?_
  first
    | refine Ex.pur (P_load_box rfl rfl rfl ty29) rfl ?_
    | refine Ex.pur (P_load_ept rfl rfl rfl ty29) rfl ?_
    | refine Ex.pur (P_load_row rfl rfl (by assumption) rfl rfl ty29) rfl ?_
  first
    | refine Ex.pur (P_len_sl rfl sl29) rfl ?_
    | refine Ex.pur (P_len_own rfl rfl sl29) rfl ?_
    | refine Ex.pur (P_len_nils rfl sl29) rfl ?_
  refine Ex.pur (P_sub rfl rfl (IntWalk.i64_in _ (by omega))) rfl ?_
  refine Ex.pur (P_assign rfl) rfl ?_
  refine Ex.nil ?_
  refine X.block ?_
  refine X.loop (ι := Nat) (fun (k : Nat) => ⟨[(0, .yv lY), (1, .ept (fun _ : Unit => [.sl intE l]) () 0), (3, iv ((l.length : Int) - 1 - k))], [(1000000, .yld k true)]⟩) (fun (k : Nat) => k ≤ l.length) (fun (k : Nat) => l.length - k) 0 ?_ ?_ (fun k hk => ?_)
  · exact Imp.of (by (repeat' (first | exact True.intro | (refine And.intro ⟨_, rfl, ?_⟩ ?_; (first | exact LeV.refl _ | exact LeV.any _ | exact LeB.refl _ | (refine LeV.eq ?_; simp; done) | (refine LeV.eq ?_; congr 1; omega) | exact LeV.nils _ | (refine LeB.eq ?_; congr 1; omega)))))) (by (repeat' (first | exact True.intro | (refine And.intro ⟨_, rfl, ?_⟩ ?_; (first | exact LeV.refl _ | exact LeV.any _ | exact LeB.refl _ | (refine LeV.eq ?_; simp; done) | (refine LeV.eq ?_; congr 1; omega) | exact LeV.nils _ | (refine LeB.eq ?_; congr 1; omega))))))
  · first | trivial | omega | (refine ⟨?_, ?_⟩ <;> omega)
  refine X.seq ?_
  refine X.seq ?_
  refine X.region ?_
  refine Ex.pur (P_move rfl) rfl ?_
  refine Ex.pur (P_geq rfl rfl) rfl ?_
  refine Ex.nil ?_
  refine X.cond rfl (fun hc1 => ?_) (fun hc1 => ?_)
  · try simp only [decide_eq_true_eq, decide_eq_false_iff_not, Bool.not_eq_true', Bool.not_eq_false', Bool.and_eq_true, Bool.or_eq_true, Bool.and_eq_false_iff, Bool.or_eq_false_iff, Int.not_lt, Int.not_le, Decidable.not_not] at hc1
    have hlt : k < l.length := by omega
    have hu : l[((l.length : Int) - 1 - k).toNat]? = some (l.getD (l.length - 1 - k) 0) := by
      rw [show ((l.length : Int) - 1 - k).toNat = l.length - 1 - k by omega, List.getD_eq_getElem?_getD, List.getElem?_eq_getElem (by omega)]; rfl
    refine X.skip ?_
    refine X.seq ?_
    refine X.block ?_
    refine X.seq ?_
    refine X.region ?_
    refine Ex.pur (P_move rfl) rfl ?_
    refine Ex.pur (P_move rfl) rfl ?_
    first
      | refine Ex.pur (P_load_box rfl rfl rfl ty29) rfl ?_
      | refine Ex.pur (P_load_ept rfl rfl rfl ty29) rfl ?_
      | refine Ex.pur (P_load_row rfl rfl (by assumption) rfl rfl ty29) rfl ?_
    refine Ex.pur (P_move rfl) rfl ?_
    first
      | refine Ex.pur (P_index_sl rfl rfl sl29 ty3 (fun _ => rfl) (by omega) (by assumption)) rfl ?_
      | refine Ex.pur (P_index_own rfl rfl rfl sl29 ty3 (by omega) (by omega)) rfl ?_
    first
      | refine Ex.pur (P_load_box rfl rfl rfl ty3) rfl ?_
      | refine Ex.pur (P_load_ept rfl rfl rfl ty3) rfl ?_
      | refine Ex.pur (P_load_row rfl rfl (by assumption) rfl rfl ty3) rfl ?_
    refine Ex.yield hY rfl rfl rfl (LeL.refl _) rfl rfl (backI_get hlt) rfl (fun b => ?_)
    refine Ex.pur (P_not rfl) rfl ?_
    refine Ex.nil ?_
    refine X.cond rfl (fun hc2 => ?_) (fun hc2 => ?_)
    · try simp only [decide_eq_true_eq, decide_eq_false_iff_not, Bool.not_eq_true', Bool.not_eq_false', Bool.and_eq_true, Bool.or_eq_true, Bool.and_eq_false_iff, Bool.or_eq_false_iff, Int.not_lt, Int.not_le, Decidable.not_not] at hc2
      refine X.ret ?_
      refine ⟨.inr rfl, _, b, rfl, fun hb => by simp_all⟩
    try simp only [decide_eq_true_eq, decide_eq_false_iff_not, Bool.not_eq_true', Bool.not_eq_false', Bool.and_eq_true, Bool.or_eq_true, Bool.and_eq_false_iff, Bool.or_eq_false_iff, Int.not_lt, Int.not_le, Decidable.not_not] at hc2
    subst hc2
    refine X.skip ?_
    refine X.region ?_
    refine Ex.pur (P_move rfl) rfl ?_
    refine Ex.pur (P_sub rfl rfl (IntWalk.i64_in _ (by omega))) rfl ?_
    refine Ex.pur (P_assign rfl) rfl ?_
    refine Ex.nil ?_
    refine ⟨k + 1, Imp.of (by (repeat' (first | exact True.intro | (refine And.intro ⟨_, rfl, ?_⟩ ?_; (first | exact LeV.refl _ | exact LeV.any _ | exact LeB.refl _ | (refine LeV.eq ?_; simp; done) | (refine LeV.eq ?_; congr 1; omega) | exact LeV.nils _ | (refine LeB.eq ?_; congr 1; omega)))))) (by (repeat' (first | exact True.intro | (refine And.intro ⟨_, rfl, ?_⟩ ?_; (first | exact LeV.refl _ | exact LeV.any _ | exact LeB.refl _ | (refine LeV.eq ?_; simp; done) | (refine LeV.eq ?_; congr 1; omega) | exact LeV.nils _ | (refine LeB.eq ?_; congr 1; omega)))))), ?_, ?_⟩
    · omega
    · omega
  · try simp only [decide_eq_true_eq, decide_eq_false_iff_not, Bool.not_eq_true', Bool.not_eq_false', Bool.and_eq_true, Bool.or_eq_true, Bool.and_eq_false_iff, Bool.or_eq_false_iff, Int.not_lt, Int.not_le, Decidable.not_not] at hc1
    refine X.exit ?_
    refine ⟨.inl rfl, k, true, rfl, fun _ => by rw [backI_len]; omega⟩
end Go.Rse
