/-
  The statement ItemKnown holds: the law's function answers true. The package-level variable item.half holds what its initialiser lays.
-/
import Derived.Test.YtmbjfeaipblfcaaDoorRow4
import Derived.Test.YtmbjfeaipblfcaaDoorRow6
import Derived.Test.YtmbjfeaipblfcaaDoorCards
import Derived.Test.YtmbjfeaipblfcaaDoorLaw13c
namespace Go.Proofs.YtmbjfeaipblfcaaDoor
open Go Go.Rse Go.RowKit Go.ChangeShapes Go.WideShapes Go.Proofs
set_option maxRecDepth 100000 in
theorem itemKnown_lifted (os : Os) (started : os.Started) (H : Type) (enc : TypeId × Value → H) :
    ReturnsInHanded {} Tryd.checked os 4 .any (fun w args => (Rows.itemKnownSpec.pre enc Tryd.prog Tryd.f4 Rows.itemKnownRow.domain false w args ∧ laidMetH Tryd.prog laidL w) ∧ sizedMet enc Tryd.prog Tryd.f4 (OpenSpec.ofChange Rows.itemKnownSpec) false w args) (Rows.itemKnownSpec.post enc Tryd.prog Tryd.f4 false true false false) := by
  refine returnsInHanded_of_change_and (C := Tryd.checked) (X := fun w _ => laidMetH Tryd.prog laidL w) (fun _ _ _ hh h => h.of_heap hh) Trydown started (by kernel_rfl) Tryd.func4
    (ChangeSpec.witness_at (enc := enc) (C := Tryd.checked) (os := os) (X := fun w _ => laidMetH Tryd.prog laidL w) false (laidWorld os) #[] 8 rfl (by kernel_rfl) (by kernel_rfl) (by kernel_rfl) (by kernel_rfl) (by kernel_rfl) (laidWorld_met os _)) ?_
  intro W base args ds gs before hval0 hW hcnd _ hL _
  have hval : ∀ (j : Nat) t v, Tryd.f4.params[j]? = some t → args[j]? = some v → Value.okWide Tryd.prog W .any base t v := hval0
  have hW2 := hW
  obtain ⟨p, q, hA0, hV, -, -, -⟩ := hW2
  have hA : DataW.TrodAll enc Tryd.prog W 0 (fun _ => true) true [] args.toList ds p := hA0
  obtain ⟨args⟩ := args
  obtain ⟨rfl, rfl⟩ := trodVars_none hV
  obtain ⟨hun, hdn, -⟩ := Go.Rse.trodAll_nil hA
  simp at hun; subst hun; subst hdn
  exact law_calls TrydlaidOut (by kernel_rfl) rfl (tb := 4) rfl Tryd.underlying4 (fun es he => by simp only [List.append_nil] at he; subst he; exact ⟨rfl, rfl, rfl⟩) (C_tactuslaw13_ItemKnown )
    (⟨rfl, fun j c v hc _ => by simp at hc⟩) hW (half_le hL)
set_option maxHeartbeats 20000000 in
theorem itemKnown_jf : joinedFacts Tryd.pinned.checked.prog 4 Tryd.f4 Rows.itemKnownSpec Rows.itemKnownRow = true := by
  unfold joinedFacts
  simp only [Bool.and_eq_true]
  repeat' apply And.intro
  all_goals (as_aux_lemma => kernel_rfl)
theorem itemKnown_nm : Tryd.pinned.checked.prog.funcNamed Rows.itemKnownRow.func = some 4 := by kernel_rfl
theorem itemKnown_in : Tryd.f4.isInstance Tryd.pinned.checked.prog Rows.itemKnownRow.origin Rows.itemKnownRow.targs := of_decide_eq_true (by kernel_rfl)
theorem itemKnown_wr : Tryd.f4.isWrapper Tryd.pinned.checked.prog Rows.itemKnownRow.wrapper Rows.itemKnownRow.mainSum := by
  unfold Func.isWrapper
  first | (rw [if_pos (by decide +kernel)]; kernel_rfl) | (rw [if_neg (by decide +kernel)]; exact ⟨rfl, rfl⟩)
theorem itemKnown_holds : Rows.ItemKnownSaid :=
  OpenClaim.holds_of_wide 4 Tryd.f4 rfl rfl rfl rfl rfl rfl rfl ⟨rfl, rfl, rfl, rfl, rfl⟩ rfl rfl rfl rfl rfl itemKnown_nm Tryd.func4 itemKnown_jf itemKnown_in itemKnown_wr
    (fun os started H enc _ => itemKnown_lifted os started H enc)
theorem itemKnown_card : Rows.ItemKnownCardSaid :=
  Claim7.holds_tied_plain_at .later [] [.data] true Rows.itemKnownCard.stood.harness Rows.itemKnownCard.stood.looks itemKnown_holds (fun _ h => by cases h) (by kernel_rfl) (fun _ h => by cases h) itemKnown_row_tie rfl ⟨rfl, rfl⟩ (by kernel_rfl) rfl
    (fun f fn hf hfn => by
      obtain rfl : f = 4 := (Option.some.inj (itemKnown_nm.symm.trans hf)).symm
      obtain rfl : fn = Tryd.f4 := (Option.some.inj (Tryd.func4.symm.trans hfn)).symm
      refine ⟨by kernel_rfl, fun j t ht => ?_⟩
      have h : (Tryd.f4.params.toList.all fun t => !Tryd.prog.wantsStandIn t) = true := by kernel_rfl
      have h2 := List.all_eq_true.1 h t (Array.mem_toList_iff.2 (Array.mem_of_getElem? ht))
      have h3 : Tryd.prog.wantsStandIn t = false := by simpa using h2
      exact h3)
    (by kernel_rfl)
end Go.Proofs.YtmbjfeaipblfcaaDoor
