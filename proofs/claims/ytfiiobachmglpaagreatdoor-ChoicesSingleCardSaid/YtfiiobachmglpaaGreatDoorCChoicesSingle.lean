/-
  The statement ChoicesSingle holds: for every list of numbers the law's function answers true. The package-level variable item.half holds what its initialiser lays.
-/
import Derived.Test.YtfiiobachmglpaaGreatDoorCRow4
import Derived.Test.YtfiiobachmglpaaGreatDoorCRow6
import Derived.Test.YtfiiobachmglpaaGreatDoorCards
import Derived.Test.YtfiiobachmglpaaGreatDoorCLaw18b
namespace Go.Proofs.YtfiiobachmglpaaGreatDoor
open Go Go.Rse Go.RowKit Go.ChangeShapes Go.WideShapes Go.Proofs
set_option maxRecDepth 100000 in
theorem choicesSingle_lifted (os : Os) (started : os.Started) (H : Type) (enc : TypeId × Value → H) :
    ReturnsInHanded {} Tryz.checked os 11 .any (fun w args => (Rows.choicesSingleSpec.pre enc Tryz.prog Tryz.f11 Rows.choicesSingleRow.domain false w args ∧ laidMetH Tryz.prog laidL w) ∧ sizedMet enc Tryz.prog Tryz.f11 (OpenSpec.ofChange Rows.choicesSingleSpec) false w args) (Rows.choicesSingleSpec.post enc Tryz.prog Tryz.f11 false true false false) := by
  refine returnsInHanded_of_change_and (C := Tryz.checked) (X := fun w _ => laidMetH Tryz.prog laidL w) (fun _ _ _ hh h => h.of_heap hh) Tryzown started (by kernel_rfl) Tryz.func11
    (ChangeSpec.witness_at (enc := enc) (C := Tryz.checked) (os := os) (X := fun w _ => laidMetH Tryz.prog laidL w) false (laidWorld os) #[.slice none 0 0] 8 rfl (by kernel_rfl) (by kernel_rfl) (by kernel_rfl) (by kernel_rfl) (by kernel_rfl) (laidWorld_met os _)) ?_
  intro W base args ds gs before hval0 hW hcnd _ hL _
  have hval : ∀ (j : Nat) t v, Tryz.f11.params[j]? = some t → args[j]? = some v → Value.okWide Tryz.prog W .any base t v := hval0
  have hW2 := hW
  obtain ⟨p, q, hA0, hV, -, -, -⟩ := hW2
  have hA : DataW.TrodAll enc Tryz.prog W 0 (fun _ => true) true [27] args.toList ds p := hA0
  obtain ⟨args⟩ := args
  obtain ⟨rfl, rfl⟩ := trodVars_none hV
  obtain ⟨v0, us0, d0, es0, p0, q0, hu0, hd0, h0, hA0, -⟩ := Go.Rse.trodAll_cons hA
  obtain ⟨hun, hdn, -⟩ := Go.Rse.trodAll_nil hA0
  subst hun hdn
  subst hu0 hd0
  obtain ⟨c0, h0f, h0m, h0r⟩ := open_sl (ρ := noNames) (enc := intE) (dec := intD) (c := 1) Tryz.underlying27 (by kernel_rfl) (by decide) eqo3 fl3 rfl intD_ok (hval 0 _ _ rfl rfl) h0
  exact law_calls TryzlaidOut (by kernel_rfl) rfl (tb := 4) rfl Tryz.underlying4 (fun es he => by simp only [List.append_nil] at he; subst he; exact ⟨rfl, rfl, rfl⟩) (C_tactuslaw18_ChoicesSingle (c0.map intD) (intD_rngs h0f) (by rw [List.length_map]; exact h0m))
    (Go.Rse.RVL.cons h0r (⟨rfl, fun j c v hc _ => by simp at hc⟩)) hW (half_le hL)
set_option maxHeartbeats 20000000 in
theorem choicesSingle_jf : joinedFacts Tryz.pinned.checked.prog 11 Tryz.f11 Rows.choicesSingleSpec Rows.choicesSingleRow = true := by
  unfold joinedFacts
  simp only [Bool.and_eq_true]
  repeat' apply And.intro
  all_goals (as_aux_lemma => kernel_rfl)
theorem choicesSingle_nm : Tryz.pinned.checked.prog.funcNamed Rows.choicesSingleRow.func = some 11 := by kernel_rfl
theorem choicesSingle_in : Tryz.f11.isInstance Tryz.pinned.checked.prog Rows.choicesSingleRow.origin Rows.choicesSingleRow.targs := of_decide_eq_true (by kernel_rfl)
theorem choicesSingle_wr : Tryz.f11.isWrapper Tryz.pinned.checked.prog Rows.choicesSingleRow.wrapper Rows.choicesSingleRow.mainSum := by
  unfold Func.isWrapper
  first | (rw [if_pos (by decide +kernel)]; kernel_rfl) | (rw [if_neg (by decide +kernel)]; exact ⟨rfl, rfl⟩)
theorem choicesSingle_holds : Rows.ChoicesSingleSaid :=
  OpenClaim.holds_of_wide 11 Tryz.f11 rfl rfl rfl rfl rfl rfl rfl ⟨rfl, rfl, rfl, rfl, rfl⟩ rfl rfl rfl rfl rfl choicesSingle_nm Tryz.func11 choicesSingle_jf choicesSingle_in choicesSingle_wr
    (fun os started H enc _ => choicesSingle_lifted os started H enc)
theorem choicesSingle_card : Rows.ChoicesSingleCardSaid :=
  Claim7.holds_tied_plain_at .later [] [.data] true Rows.choicesSingleCard.stood.harness Rows.choicesSingleCard.stood.looks choicesSingle_holds (fun _ h => by cases h) (by kernel_rfl) (fun _ h => by cases h) choicesSingle_row_tie rfl ⟨rfl, rfl⟩ (by kernel_rfl) rfl
    (fun f fn hf hfn => by
      obtain rfl : f = 11 := (Option.some.inj (choicesSingle_nm.symm.trans hf)).symm
      obtain rfl : fn = Tryz.f11 := (Option.some.inj (Tryz.func11.symm.trans hfn)).symm
      refine ⟨by kernel_rfl, fun j t ht => ?_⟩
      have h : (Tryz.f11.params.toList.all fun t => !Tryz.prog.wantsStandIn t) = true := by kernel_rfl
      have h2 := List.all_eq_true.1 h t (Array.mem_toList_iff.2 (Array.mem_of_getElem? ht))
      have h3 : Tryz.prog.wantsStandIn t = false := by simpa using h2
      exact h3)
    (by kernel_rfl)
end Go.Proofs.YtfiiobachmglpaaGreatDoor
