/-
  The statement WritingsRead holds: for every list of numbers and two numbers the law's function answers true. The package-level variable item.half holds what its initialiser lays.
-/
import Derived.Test.YtkpbljifckjeoaaGreatDoorYRow4
import Derived.Test.YtkpbljifckjeoaaGreatDoorYRow6
import Derived.Test.YtkpbljifckjeoaaGreatDoorCards
import Derived.Test.YtkpbljifckjeoaaGreatDoorYJLaw24f
import Derived.Test.YtkpbljifckjeoaaGreatDoorYGWritingsRead
namespace Go.Proofs.YtkpbljifckjeoaaGreatDoor
open Go Go.Rse Go.RowKit Go.ChangeShapes Go.WideShapes Go.Proofs
theorem eqo3 : (eqOk Tryz.prog 5 3 && decide (5 ≤ 10000)) = true := by kernel_rfl
theorem fl3 : flat Tryz.prog 5 3 = [1] := by kernel_rfl
set_option maxRecDepth 100000 in
theorem writingsRead_lifted (os : Os) (started : os.Started) (H : Type) (enc : TypeId × Value → H) :
    ReturnsInHanded {} Tryz.checked os 6 .any (fun w args => (Rows.writingsReadSpec.pre enc Tryz.prog Tryz.f6 Rows.writingsReadRow.domain false w args ∧ laidMetH Tryz.prog laidL w) ∧ sizedMet enc Tryz.prog Tryz.f6 (OpenSpec.ofChange Rows.writingsReadSpec) false w args) (Rows.writingsReadSpec.post enc Tryz.prog Tryz.f6 false true false false) := by
  refine returnsInHanded_of_change_and (C := Tryz.checked) (X := fun w _ => laidMetH Tryz.prog laidL w) (fun _ _ _ hh h => h.of_heap hh) Tryzown started (by kernel_rfl) Tryz.func6
    (ChangeSpec.witness_at (enc := enc) (C := Tryz.checked) (os := os) (X := fun w _ => laidMetH Tryz.prog laidL w) false (laidWorld os) #[.slice none 0 0, .int .i64 0, .int .i64 0] 8 rfl (by kernel_rfl) (by kernel_rfl) (by kernel_rfl) (by kernel_rfl) (by kernel_rfl) (laidWorld_met os _)) ?_
  intro W base args ds gs before hval0 hW hcnd _ hL _
  have hval : ∀ (j : Nat) t v, Tryz.f6.params[j]? = some t → args[j]? = some v → Value.okWide Tryz.prog W .any base t v := hval0
  have hW2 := hW
  obtain ⟨p, q, hA0, hV, -, -, -⟩ := hW2
  have hA : DataW.TrodAll enc Tryz.prog W 0 (fun _ => true) true [59, 3, 3] args.toList ds p := hA0
  obtain ⟨args⟩ := args
  obtain ⟨rfl, rfl⟩ := trodVars_none hV
  obtain ⟨v0, us0, d0, es0, p0, q0, hu0, hd0, h0, hA0, -⟩ := Go.Rse.trodAll_cons hA
  obtain ⟨v1, us1, d1, es1, p1, q1, hu1, hd1, h1, hA1, -⟩ := Go.Rse.trodAll_cons hA0
  obtain ⟨v2, us2, d2, es2, p2, q2, hu2, hd2, h2, hA2, -⟩ := Go.Rse.trodAll_cons hA1
  obtain ⟨hun, hdn, -⟩ := Go.Rse.trodAll_nil hA2
  subst hun hdn
  subst hu2 hd2
  subst hu1 hd1
  subst hu0 hd0
  obtain ⟨c0, h0f, h0m, h0r⟩ := open_sl (ρ := noNames) (enc := intE) (dec := intD) (c := 1) Tryz.underlying59 (by kernel_rfl) (by decide) eqo3 fl3 rfl intD_ok (hval 0 _ _ rfl rfl) h0
  obtain ⟨c1, h1f, h1r⟩ := Go.Rse.open_int (ρ := noNames) Tryz.underlying3 (hval 1 _ _ rfl rfl) h1
  have c1b := i64_rng h1f
  obtain ⟨c2, h2f, h2r⟩ := Go.Rse.open_int (ρ := noNames) Tryz.underlying3 (hval 2 _ _ rfl rfl) h2
  have c2b := i64_rng h2f
  exact law_calls TryzlaidOut (by kernel_rfl) rfl (tb := 4) rfl Tryz.underlying4 (fun es he => by simp only [List.append_nil] at he; subst he; exact ⟨rfl, rfl, rfl⟩) (C_tactuslaw24_WritingsRead (c0.map intD) c1 c2 (intD_rngs h0f) (by rw [List.length_map]; exact h0m) (c1b) (c2b))
    (Go.Rse.RVL.cons h0r (Go.Rse.RVL.cons h1r (Go.Rse.RVL.cons h2r (⟨rfl, fun j c v hc _ => by simp at hc⟩)))) hW (half_le hL)
set_option maxHeartbeats 20000000 in
theorem writingsRead_jf : joinedFacts Tryz.pinned.checked.prog 6 Tryz.f6 Rows.writingsReadSpec Rows.writingsReadRow = true := by
  unfold joinedFacts
  simp only [Bool.and_eq_true]
  repeat' apply And.intro
  all_goals (as_aux_lemma => kernel_rfl)
theorem writingsRead_nm : Tryz.pinned.checked.prog.funcNamed Rows.writingsReadRow.func = some 6 := by kernel_rfl
theorem writingsRead_in : Tryz.f6.isInstance Tryz.pinned.checked.prog Rows.writingsReadRow.origin Rows.writingsReadRow.targs := of_decide_eq_true (by kernel_rfl)
theorem writingsRead_wr : Tryz.f6.isWrapper Tryz.pinned.checked.prog Rows.writingsReadRow.wrapper Rows.writingsReadRow.mainSum := by
  unfold Func.isWrapper
  first | (rw [if_pos (by decide +kernel)]; kernel_rfl) | (rw [if_neg (by decide +kernel)]; exact ⟨rfl, rfl⟩)
theorem writingsRead_holds : Rows.WritingsReadSaid :=
  OpenClaim.holds_of_wide 6 Tryz.f6 rfl rfl rfl rfl rfl rfl rfl ⟨rfl, rfl, rfl, rfl, rfl⟩ rfl rfl rfl rfl rfl writingsRead_nm Tryz.func6 writingsRead_jf writingsRead_in writingsRead_wr
    (fun os started H enc _ => writingsRead_lifted os started H enc)
theorem writingsRead_card : Rows.WritingsReadCardSaid :=
  Claim7.holds_tied_plain_at .later [] [.data] true Rows.writingsReadCard.stood.harness Rows.writingsReadCard.stood.looks writingsRead_holds (fun _ h => by cases h) (by kernel_rfl) (fun _ h => by cases h) writingsRead_row_tie rfl ⟨rfl, rfl⟩ (by kernel_rfl) rfl
    (fun f fn hf hfn => by
      obtain rfl : f = 6 := (Option.some.inj (writingsRead_nm.symm.trans hf)).symm
      obtain rfl : fn = Tryz.f6 := (Option.some.inj (Tryz.func6.symm.trans hfn)).symm
      refine ⟨by kernel_rfl, fun j t ht => ?_⟩
      have h : (Tryz.f6.params.toList.all fun t => !Tryz.prog.wantsStandIn t) = true := by kernel_rfl
      have h2 := List.all_eq_true.1 h t (Array.mem_toList_iff.2 (Array.mem_of_getElem? ht))
      have h3 : Tryz.prog.wantsStandIn t = false := by simpa using h2
      exact h3)
    writingsRead_gb
end Go.Proofs.YtkpbljifckjeoaaGreatDoor
