/-
  The statement WriteAlone holds: for every two numbers, a bool and habits the law's function answers true. The package-level variable item.half holds what its initialiser lays.
-/
import Derived.Test.YtggdlojopkoegaaGreatDoorHRow4
import Derived.Test.YtggdlojopkoegaaGreatDoorHRow6
import Derived.Test.YtggdlojopkoegaaGreatDoorCards
import Derived.Test.YtggdlojopkoegaaGreatDoorHRow8
import Derived.Test.YtggdlojopkoegaaGreatDoorHRow9
import Derived.Test.YtggdlojopkoegaaGreatDoorHJLaw23a
import Derived.Test.YtggdlojopkoegaaGreatDoorHGWriteAlone
namespace Go.Proofs.YtggdlojopkoegaaGreatDoor
open Go Go.Rse Go.RowKit Go.ChangeShapes Go.WideShapes Go.Proofs
theorem eqo32 : (eqOk Tryz.prog 5 32 && decide (5 ≤ 10000)) = true := by kernel_rfl
theorem fl32 : flat Tryz.prog 5 32 = [2, 2, 2] := by kernel_rfl
set_option maxRecDepth 100000 in
theorem writeAlone_lifted (os : Os) (started : os.Started) (H : Type) (enc : TypeId × Value → H) :
    ReturnsInHanded {} Tryz.checked os 9 .any (fun w args => (Rows.writeAloneSpec.pre enc Tryz.prog Tryz.f9 Rows.writeAloneRow.domain false w args ∧ laidMetH Tryz.prog laidL w) ∧ sizedMet enc Tryz.prog Tryz.f9 (OpenSpec.ofChange Rows.writeAloneSpec) false w args) (Rows.writeAloneSpec.post enc Tryz.prog Tryz.f9 false true false false) := by
  refine returnsInHanded_of_change_and (C := Tryz.checked) (X := fun w _ => laidMetH Tryz.prog laidL w) (fun _ _ _ hh h => h.of_heap hh) Tryzown started (by kernel_rfl) Tryz.func9
    (ChangeSpec.witness_at (enc := enc) (C := Tryz.checked) (os := os) (X := fun w _ => laidMetH Tryz.prog laidL w) false (laidWorld os) #[.int .i64 0, .int .i64 0, .bool false, .agg #[.bool false, .bool false, .bool false]] 8 rfl (by kernel_rfl) (by kernel_rfl) (by kernel_rfl) (by kernel_rfl) (by kernel_rfl) (laidWorld_met os _)) ?_
  intro W base args ds gs before hval0 hW hcnd _ hL _
  have hval : ∀ (j : Nat) t v, Tryz.f9.params[j]? = some t → args[j]? = some v → Value.okWide Tryz.prog W .any base t v := hval0
  have hW2 := hW
  obtain ⟨p, q, hA0, hV, -, -, -⟩ := hW2
  have hA : DataW.TrodAll enc Tryz.prog W 0 (fun _ => true) true [3, 3, 4, 32] args.toList ds p := hA0
  obtain ⟨args⟩ := args
  obtain ⟨rfl, rfl⟩ := trodVars_none hV
  obtain ⟨v0, us0, d0, es0, p0, q0, hu0, hd0, h0, hA0, -⟩ := Go.Rse.trodAll_cons hA
  obtain ⟨v1, us1, d1, es1, p1, q1, hu1, hd1, h1, hA1, -⟩ := Go.Rse.trodAll_cons hA0
  obtain ⟨v2, us2, d2, es2, p2, q2, hu2, hd2, h2, hA2, -⟩ := Go.Rse.trodAll_cons hA1
  obtain ⟨v3, us3, d3, es3, p3, q3, hu3, hd3, h3, hA3, -⟩ := Go.Rse.trodAll_cons hA2
  obtain ⟨hun, hdn, -⟩ := Go.Rse.trodAll_nil hA3
  subst hun hdn
  subst hu3 hd3
  subst hu2 hd2
  subst hu1 hd1
  subst hu0 hd0
  obtain ⟨c0, h0f, h0r⟩ := Go.Rse.open_int (ρ := noNames) Tryz.underlying3 (hval 0 _ _ rfl rfl) h0
  have c0b := i64_rng h0f
  obtain ⟨c1, h1f, h1r⟩ := Go.Rse.open_int (ρ := noNames) Tryz.underlying3 (hval 1 _ _ rfl rfl) h1
  have c1b := i64_rng h1f
  obtain ⟨c2, h2r⟩ := Go.Rse.open_bool (ρ := noNames) Tryz.underlying4 (hval 2 _ _ rfl rfl) h2
  obtain ⟨c3, h3f, h3r⟩ := open_st (ρ := noNames) (enc := hbE) (dec := hbD) ⟨_, Tryz.underlying32⟩ eqo32 fl32 hbD_ok (hval 3 _ _ rfl rfl) h3
  exact law_calls TryzlaidOut (by kernel_rfl) rfl (tb := 4) rfl Tryz.underlying4 (fun es he => by simp only [List.append_nil] at he; subst he; exact ⟨rfl, rfl, rfl⟩) (C_tactuslaw23_WriteAlone c0 c1 c2 (hbD c3) (c0b) (c1b))
    (Go.Rse.RVL.cons h0r (Go.Rse.RVL.cons h1r (Go.Rse.RVL.cons h2r (Go.Rse.RVL.cons h3r (⟨rfl, fun j c v hc _ => by simp at hc⟩))))) hW (half_le hL)
set_option maxHeartbeats 20000000 in
theorem writeAlone_jf : joinedFacts Tryz.pinned.checked.prog 9 Tryz.f9 Rows.writeAloneSpec Rows.writeAloneRow = true := by
  unfold joinedFacts
  simp only [Bool.and_eq_true]
  repeat' apply And.intro
  all_goals (as_aux_lemma => kernel_rfl)
theorem writeAlone_nm : Tryz.pinned.checked.prog.funcNamed Rows.writeAloneRow.func = some 9 := by kernel_rfl
theorem writeAlone_in : Tryz.f9.isInstance Tryz.pinned.checked.prog Rows.writeAloneRow.origin Rows.writeAloneRow.targs := of_decide_eq_true (by kernel_rfl)
theorem writeAlone_wr : Tryz.f9.isWrapper Tryz.pinned.checked.prog Rows.writeAloneRow.wrapper Rows.writeAloneRow.mainSum := by
  unfold Func.isWrapper
  first | (rw [if_pos (by decide +kernel)]; kernel_rfl) | (rw [if_neg (by decide +kernel)]; exact ⟨rfl, rfl⟩)
theorem writeAlone_holds : Rows.WriteAloneSaid :=
  OpenClaim.holds_of_wide 9 Tryz.f9 rfl rfl rfl rfl rfl rfl rfl ⟨rfl, rfl, rfl, rfl, rfl⟩ rfl rfl rfl rfl rfl writeAlone_nm Tryz.func9 writeAlone_jf writeAlone_in writeAlone_wr
    (fun os started H enc _ => writeAlone_lifted os started H enc)
theorem writeAlone_card : Rows.WriteAloneCardSaid :=
  Claim7.holds_tied_plain_at .later [] [.data] true Rows.writeAloneCard.stood.harness Rows.writeAloneCard.stood.looks writeAlone_holds (fun _ h => by cases h) (by kernel_rfl) (fun _ h => by cases h) writeAlone_row_tie rfl ⟨rfl, rfl⟩ (by kernel_rfl) rfl
    (fun f fn hf hfn => by
      obtain rfl : f = 9 := (Option.some.inj (writeAlone_nm.symm.trans hf)).symm
      obtain rfl : fn = Tryz.f9 := (Option.some.inj (Tryz.func9.symm.trans hfn)).symm
      refine ⟨by kernel_rfl, fun j t ht => ?_⟩
      have h : (Tryz.f9.params.toList.all fun t => !Tryz.prog.wantsStandIn t) = true := by kernel_rfl
      have h2 := List.all_eq_true.1 h t (Array.mem_toList_iff.2 (Array.mem_of_getElem? ht))
      have h3 : Tryz.prog.wantsStandIn t = false := by simpa using h2
      exact h3)
    writeAlone_gb
end Go.Proofs.YtggdlojopkoegaaGreatDoor
