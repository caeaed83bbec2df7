/-
  The statement ItemTotals holds: for all two lists of items the law's function answers true. The package-level variable item.half holds what its initialiser lays.
-/
import Derived.Test.YtmbjfeaipblfcaaDoorRow4
import Derived.Test.YtmbjfeaipblfcaaDoorRow6
import Derived.Test.YtmbjfeaipblfcaaDoorCards
import Derived.Test.YtmbjfeaipblfcaaDoorLaw13b
import Derived.Test.YtmbjfeaipblfcaaDoorRow7
namespace Go.Proofs.YtmbjfeaipblfcaaDoor
open Go Go.Rse Go.RowKit Go.ChangeShapes Go.WideShapes Go.Proofs
set_option maxRecDepth 100000 in
theorem itemTotals_lifted (os : Os) (started : os.Started) (H : Type) (enc : TypeId × Value → H) :
    ReturnsInHanded {} Tryd.checked os 3 .any (fun w args => (Rows.itemTotalsSpec.pre enc Tryd.prog Tryd.f3 Rows.itemTotalsRow.domain false w args ∧ laidMetH Tryd.prog laidL w) ∧ sizedMet enc Tryd.prog Tryd.f3 (OpenSpec.ofChange Rows.itemTotalsSpec) false w args) (Rows.itemTotalsSpec.post enc Tryd.prog Tryd.f3 false true false false) := by
  refine returnsInHanded_of_change_and (C := Tryd.checked) (X := fun w _ => laidMetH Tryd.prog laidL w) (fun _ _ _ hh h => h.of_heap hh) Trydown started (by kernel_rfl) Tryd.func3
    (ChangeSpec.witness_at (enc := enc) (C := Tryd.checked) (os := os) (X := fun w _ => laidMetH Tryd.prog laidL w) false (laidWorld os) #[.slice none 0 0, .slice none 0 0] 8 rfl (by kernel_rfl) (by kernel_rfl) (by kernel_rfl) (by kernel_rfl) (by kernel_rfl) (laidWorld_met os _)) ?_
  intro W base args ds gs before hval0 hW hcnd _ hL _
  have hval : ∀ (j : Nat) t v, Tryd.f3.params[j]? = some t → args[j]? = some v → Value.okWide Tryd.prog W .any base t v := hval0
  have hW2 := hW
  obtain ⟨p, q, hA0, hV, -, -, -⟩ := hW2
  have hA : DataW.TrodAll enc Tryd.prog W 0 (fun _ => true) true [22, 22] args.toList ds p := hA0
  obtain ⟨args⟩ := args
  obtain ⟨rfl, rfl⟩ := trodVars_none hV
  obtain ⟨v0, us0, d0, es0, p0, q0, hu0, hd0, h0, hA0, -⟩ := Go.Rse.trodAll_cons hA
  obtain ⟨v1, us1, d1, es1, p1, q1, hu1, hd1, h1, hA1, -⟩ := Go.Rse.trodAll_cons hA0
  obtain ⟨hun, hdn, -⟩ := Go.Rse.trodAll_nil hA1
  subst hun hdn
  subst hu1 hd1
  subst hu0 hd0
  obtain ⟨c0, h0f, h0m, h0r⟩ := open_sl (ρ := noNames) (enc := itE) (dec := itD) (c := 12) Tryd.underlying22 (by kernel_rfl) (by decide) eqo49 fl49 rfl itD_ok (hval 0 _ _ rfl rfl) h0
  obtain ⟨c1, h1f, h1m, h1r⟩ := open_sl (ρ := noNames) (enc := itE) (dec := itD) (c := 12) Tryd.underlying22 (by kernel_rfl) (by decide) eqo49 fl49 rfl itD_ok (hval 1 _ _ rfl rfl) h1
  exact law_calls TrydlaidOut (by kernel_rfl) rfl (tb := 4) rfl Tryd.underlying4 (fun es he => by simp only [List.append_nil] at he; subst he; exact ⟨rfl, rfl, rfl⟩) (C_tactuslaw13_ItemTotals (c0.map itD) (c1.map itD))
    (Go.Rse.RVL.cons h0r (Go.Rse.RVL.cons h1r (⟨rfl, fun j c v hc _ => by simp at hc⟩))) hW (half_le hL)
set_option maxHeartbeats 20000000 in
theorem itemTotals_jf : joinedFacts Tryd.pinned.checked.prog 3 Tryd.f3 Rows.itemTotalsSpec Rows.itemTotalsRow = true := by
  unfold joinedFacts
  simp only [Bool.and_eq_true]
  repeat' apply And.intro
  all_goals (as_aux_lemma => kernel_rfl)
theorem itemTotals_nm : Tryd.pinned.checked.prog.funcNamed Rows.itemTotalsRow.func = some 3 := by kernel_rfl
theorem itemTotals_in : Tryd.f3.isInstance Tryd.pinned.checked.prog Rows.itemTotalsRow.origin Rows.itemTotalsRow.targs := of_decide_eq_true (by kernel_rfl)
theorem itemTotals_wr : Tryd.f3.isWrapper Tryd.pinned.checked.prog Rows.itemTotalsRow.wrapper Rows.itemTotalsRow.mainSum := by
  unfold Func.isWrapper
  first | (rw [if_pos (by decide +kernel)]; kernel_rfl) | (rw [if_neg (by decide +kernel)]; exact ⟨rfl, rfl⟩)
theorem itemTotals_holds : Rows.ItemTotalsSaid :=
  OpenClaim.holds_of_wide 3 Tryd.f3 rfl rfl rfl rfl rfl rfl rfl ⟨rfl, rfl, rfl, rfl, rfl⟩ rfl rfl rfl rfl rfl itemTotals_nm Tryd.func3 itemTotals_jf itemTotals_in itemTotals_wr
    (fun os started H enc _ => itemTotals_lifted os started H enc)
theorem itemTotals_card : Rows.ItemTotalsCardSaid :=
  Claim7.holds_tied_plain_at .later [] [.data] true Rows.itemTotalsCard.stood.harness Rows.itemTotalsCard.stood.looks itemTotals_holds (fun _ h => by cases h) (by kernel_rfl) (fun _ h => by cases h) itemTotals_row_tie rfl ⟨rfl, rfl⟩ (by kernel_rfl) rfl
    (fun f fn hf hfn => by
      obtain rfl : f = 3 := (Option.some.inj (itemTotals_nm.symm.trans hf)).symm
      obtain rfl : fn = Tryd.f3 := (Option.some.inj (Tryd.func3.symm.trans hfn)).symm
      refine ⟨by kernel_rfl, fun j t ht => ?_⟩
      have h : (Tryd.f3.params.toList.all fun t => !Tryd.prog.wantsStandIn t) = true := by kernel_rfl
      have h2 := List.all_eq_true.1 h t (List.mem_of_getElem? (by simpa using ht))
      have h3 : Tryd.prog.wantsStandIn t = false := by simpa using h2
      exact h3)
    (by kernel_rfl)
end Go.Proofs.YtmbjfeaipblfcaaDoor
