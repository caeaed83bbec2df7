/-
  The statement RuleReads holds: for every mensuration, run and times the law's function answers true. The package-level variable item.half holds what its initialiser lays.
-/
import Derived.Test.YtfiiobachmglpaaGreatDoorFRow4
import Derived.Test.YtfiiobachmglpaaGreatDoorFRow6
import Derived.Test.YtfiiobachmglpaaGreatDoorCards
import Derived.Test.YtfiiobachmglpaaGreatDoorFJLaw17b
namespace Go.Proofs.YtfiiobachmglpaaGreatDoor
open Go Go.Rse Go.RowKit Go.ChangeShapes Go.WideShapes Go.Proofs
set_option maxRecDepth 100000 in
theorem ruleReads_lifted (os : Os) (started : os.Started) (H : Type) (enc : TypeId × Value → H) :
    ReturnsInHanded {} Tryz.checked os 8 .any (fun w args => (Rows.ruleReadsSpec.pre enc Tryz.prog Tryz.f8 Rows.ruleReadsRow.domain false w args ∧ laidMetH Tryz.prog laidL w) ∧ sizedMet enc Tryz.prog Tryz.f8 (OpenSpec.ofChange Rows.ruleReadsSpec) false w args) (Rows.ruleReadsSpec.post enc Tryz.prog Tryz.f8 false true false false) := by
  refine returnsInHanded_of_change_and (C := Tryz.checked) (X := fun w _ => laidMetH Tryz.prog laidL w) (fun _ _ _ hh h => h.of_heap hh) Tryzown started (by kernel_rfl) Tryz.func8
    (ChangeSpec.witness_at (enc := enc) (C := Tryz.checked) (os := os) (X := fun w _ => laidMetH Tryz.prog laidL w) false (laidWorld os) #[.agg #[.int .i64 0, .int .i64 0, .int .i64 0, .int .i64 0], .slice none 0 0, .slice none 0 0] 8 rfl (by kernel_rfl) (by kernel_rfl) (by kernel_rfl) (by kernel_rfl) (by kernel_rfl) (laidWorld_met os _)) ?_
  intro W base args ds gs before hval0 hW hcnd _ hL _
  have hval : ∀ (j : Nat) t v, Tryz.f8.params[j]? = some t → args[j]? = some v → Value.okWide Tryz.prog W .any base t v := hval0
  have hW2 := hW
  obtain ⟨p, q, hA0, hV, -, -, -⟩ := hW2
  have hA : DataW.TrodAll enc Tryz.prog W 0 (fun _ => true) true [23, 37, 39] args.toList ds p := hA0
  obtain ⟨args⟩ := args
  obtain ⟨rfl, rfl⟩ := trodVars_none hV
  obtain ⟨v0, us0, d0, es0, p0, q0, hu0, hd0, h0, hA0, -⟩ := Go.Rse.trodAll_cons hA
  obtain ⟨v1, us1, d1, es1, p1, q1, hu1, hd1, h1, hA1, -⟩ := Go.Rse.trodAll_cons hA0
  obtain ⟨v2, us2, d2, es2, p2, q2, hu2, hd2, h2, hA2, -⟩ := Go.Rse.trodAll_cons hA1
  obtain ⟨hun, hdn, -⟩ := Go.Rse.trodAll_nil hA2
  subst hun hdn
  subst hu2 hd2
  subst hu1 hd1
  subst hu0 hd0
  obtain ⟨c0, h0f, h0r⟩ := open_st (ρ := noNames) (enc := mnE) (dec := mnD) ⟨_, Tryz.underlying23⟩ eqo23 fl23 mnD_ok (hval 0 _ _ rfl rfl) h0
  obtain ⟨c1, h1f, h1m, h1r⟩ := open_sl (ρ := noNames) (enc := sgE) (dec := sgD) (c := 17) Tryz.underlying37 (by kernel_rfl) (by decide) eqo67 fl67 rfl sgD_ok (hval 1 _ _ rfl rfl) h1
  obtain ⟨c2, h2f, h2m, h2r⟩ := open_sl (ρ := noNames) (enc := tmE) (dec := tmD) (c := 2) Tryz.underlying39 (by kernel_rfl) (by decide) eqo60 fl60 rfl tmD_ok (hval 2 _ _ rfl rfl) h2
  exact law_calls TryzlaidOut (by kernel_rfl) rfl (tb := 4) rfl Tryz.underlying4 (fun es he => by simp only [List.append_nil] at he; subst he; exact ⟨rfl, rfl, rfl⟩) (C_tactuslaw17_RuleReads (mnD c0) (c1.map sgD) (c2.map tmD))
    (Go.Rse.RVL.cons h0r (Go.Rse.RVL.cons h1r (Go.Rse.RVL.cons h2r (⟨rfl, fun j c v hc _ => by simp at hc⟩)))) hW (half_le hL)
set_option maxHeartbeats 20000000 in
theorem ruleReads_jf : joinedFacts Tryz.pinned.checked.prog 8 Tryz.f8 Rows.ruleReadsSpec Rows.ruleReadsRow = true := by
  unfold joinedFacts
  simp only [Bool.and_eq_true]
  repeat' apply And.intro
  all_goals (as_aux_lemma => kernel_rfl)
theorem ruleReads_nm : Tryz.pinned.checked.prog.funcNamed Rows.ruleReadsRow.func = some 8 := by kernel_rfl
theorem ruleReads_in : Tryz.f8.isInstance Tryz.pinned.checked.prog Rows.ruleReadsRow.origin Rows.ruleReadsRow.targs := of_decide_eq_true (by kernel_rfl)
theorem ruleReads_wr : Tryz.f8.isWrapper Tryz.pinned.checked.prog Rows.ruleReadsRow.wrapper Rows.ruleReadsRow.mainSum := by
  unfold Func.isWrapper
  first | (rw [if_pos (by decide +kernel)]; kernel_rfl) | (rw [if_neg (by decide +kernel)]; exact ⟨rfl, rfl⟩)
theorem ruleReads_holds : Rows.RuleReadsSaid :=
  OpenClaim.holds_of_wide 8 Tryz.f8 rfl rfl rfl rfl rfl rfl rfl ⟨rfl, rfl, rfl, rfl, rfl⟩ rfl rfl rfl rfl rfl ruleReads_nm Tryz.func8 ruleReads_jf ruleReads_in ruleReads_wr
    (fun os started H enc _ => ruleReads_lifted os started H enc)
theorem ruleReads_card : Rows.RuleReadsCardSaid :=
  Claim7.holds_tied_plain_at .later [] [.data] true Rows.ruleReadsCard.stood.harness Rows.ruleReadsCard.stood.looks ruleReads_holds (fun _ h => by cases h) (by kernel_rfl) (fun _ h => by cases h) ruleReads_row_tie rfl ⟨rfl, rfl⟩ (by kernel_rfl) rfl
    (fun f fn hf hfn => by
      obtain rfl : f = 8 := (Option.some.inj (ruleReads_nm.symm.trans hf)).symm
      obtain rfl : fn = Tryz.f8 := (Option.some.inj (Tryz.func8.symm.trans hfn)).symm
      refine ⟨by kernel_rfl, fun j t ht => ?_⟩
      have h : (Tryz.f8.params.toList.all fun t => !Tryz.prog.wantsStandIn t) = true := by kernel_rfl
      have h2 := List.all_eq_true.1 h t (Array.mem_toList_iff.2 (Array.mem_of_getElem? ht))
      have h3 : Tryz.prog.wantsStandIn t = false := by simpa using h2
      exact h3)
    (by kernel_rfl)
end Go.Proofs.YtfiiobachmglpaaGreatDoor
