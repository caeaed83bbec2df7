/-
  The statement ChoicesKnown holds: the law's function answers true. The package-level variable item.half holds what its initialiser lays.
-/
import Derived.Test.YtbilklnipfabpaaGreatDoorKRow4
import Derived.Test.YtbilklnipfabpaaGreatDoorKRow6
import Derived.Test.YtbilklnipfabpaaGreatDoorCards
import Derived.Test.YtbilklnipfabpaaGreatDoorKLaw18h
namespace Go.Proofs.YtbilklnipfabpaaGreatDoor
open Go Go.Rse Go.RowKit Go.ChangeShapes Go.WideShapes Go.Proofs
set_option maxRecDepth 100000 in
theorem choicesKnown_lifted (os : Os) (started : os.Started) (H : Type) (enc : TypeId × Value → H) :
    ReturnsInHanded {} Tryz.checked os 6 .any (fun w args => (Rows.choicesKnownSpec.pre enc Tryz.prog Tryz.f6 Rows.choicesKnownRow.domain false w args ∧ laidMetH Tryz.prog laidL w) ∧ sizedMet enc Tryz.prog Tryz.f6 (OpenSpec.ofChange Rows.choicesKnownSpec) false w args) (Rows.choicesKnownSpec.post enc Tryz.prog Tryz.f6 false true false false) := by
  refine returnsInHanded_of_change_and (C := Tryz.checked) (X := fun w _ => laidMetH Tryz.prog laidL w) (fun _ _ _ hh h => h.of_heap hh) Tryzown started (by kernel_rfl) Tryz.func6
    (ChangeSpec.witness_at (enc := enc) (C := Tryz.checked) (os := os) (X := fun w _ => laidMetH Tryz.prog laidL w) false (laidWorld os) #[] 8 rfl (by kernel_rfl) (by kernel_rfl) (by kernel_rfl) (by kernel_rfl) (by kernel_rfl) (laidWorld_met os _)) ?_
  intro W base args ds gs before hval0 hW hcnd _ hL _
  have hval : ∀ (j : Nat) t v, Tryz.f6.params[j]? = some t → args[j]? = some v → Value.okWide Tryz.prog W .any base t v := hval0
  have hW2 := hW
  obtain ⟨p, q, hA0, hV, -, -, -⟩ := hW2
  have hA : DataW.TrodAll enc Tryz.prog W 0 (fun _ => true) true [] args.toList ds p := hA0
  obtain ⟨args⟩ := args
  obtain ⟨rfl, rfl⟩ := trodVars_none hV
  obtain ⟨hun, hdn, -⟩ := Go.Rse.trodAll_nil hA
  simp at hun; subst hun; subst hdn
  exact law_calls TryzlaidOut (by kernel_rfl) rfl (tb := 4) rfl Tryz.underlying4 (fun es he => by simp only [List.append_nil] at he; subst he; exact ⟨rfl, rfl, rfl⟩) (C_tactuslaw18_ChoicesKnown )
    (⟨rfl, fun j c v hc _ => by simp at hc⟩) hW (half_le hL)
set_option maxHeartbeats 20000000 in
theorem choicesKnown_jf : joinedFacts Tryz.pinned.checked.prog 6 Tryz.f6 Rows.choicesKnownSpec Rows.choicesKnownRow = true := by
  unfold joinedFacts
  simp only [Bool.and_eq_true]
  repeat' apply And.intro
  all_goals (as_aux_lemma => kernel_rfl)
theorem choicesKnown_nm : Tryz.pinned.checked.prog.funcNamed Rows.choicesKnownRow.func = some 6 := by kernel_rfl
theorem choicesKnown_in : Tryz.f6.isInstance Tryz.pinned.checked.prog Rows.choicesKnownRow.origin Rows.choicesKnownRow.targs := of_decide_eq_true (by kernel_rfl)
theorem choicesKnown_wr : Tryz.f6.isWrapper Tryz.pinned.checked.prog Rows.choicesKnownRow.wrapper Rows.choicesKnownRow.mainSum := by
  unfold Func.isWrapper
  first | (rw [if_pos (by decide +kernel)]; kernel_rfl) | (rw [if_neg (by decide +kernel)]; exact ⟨rfl, rfl⟩)
theorem choicesKnown_holds : Rows.ChoicesKnownSaid :=
  OpenClaim.holds_of_wide 6 Tryz.f6 rfl rfl rfl rfl rfl rfl rfl ⟨rfl, rfl, rfl, rfl, rfl⟩ rfl rfl rfl rfl rfl choicesKnown_nm Tryz.func6 choicesKnown_jf choicesKnown_in choicesKnown_wr
    (fun os started H enc _ => choicesKnown_lifted os started H enc)
theorem choicesKnown_card : Rows.ChoicesKnownCardSaid :=
  Claim7.holds_tied_plain_at .later [] [.data] true Rows.choicesKnownCard.stood.harness Rows.choicesKnownCard.stood.looks choicesKnown_holds (fun _ h => by cases h) (by kernel_rfl) (fun _ h => by cases h) choicesKnown_row_tie rfl ⟨rfl, rfl⟩ (by kernel_rfl) rfl
    (fun f fn hf hfn => by
      obtain rfl : f = 6 := (Option.some.inj (choicesKnown_nm.symm.trans hf)).symm
      obtain rfl : fn = Tryz.f6 := (Option.some.inj (Tryz.func6.symm.trans hfn)).symm
      refine ⟨by kernel_rfl, fun j t ht => ?_⟩
      have h : (Tryz.f6.params.toList.all fun t => !Tryz.prog.wantsStandIn t) = true := by kernel_rfl
      have h2 := List.all_eq_true.1 h t (Array.mem_toList_iff.2 (Array.mem_of_getElem? ht))
      have h3 : Tryz.prog.wantsStandIn t = false := by simpa using h2
      exact h3)
    (by kernel_rfl)
end Go.Proofs.YtbilklnipfabpaaGreatDoor
