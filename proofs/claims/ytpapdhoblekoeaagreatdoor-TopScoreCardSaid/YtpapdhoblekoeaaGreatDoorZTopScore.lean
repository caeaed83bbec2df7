/-
  The statement TopScore holds: for all two lists of numbers and every number the law's function answers true. The package-level variables item.half, pitch.halves, interval.kinds, sign.uses and sign.classes hold what their initialisers lay.
-/
import Derived.Test.YtpapdhoblekoeaaGreatDoorZRow4
import Derived.Test.YtpapdhoblekoeaaGreatDoorZRow6
import Derived.Test.YtpapdhoblekoeaaGreatDoorCards
import Derived.Test.YtpapdhoblekoeaaGreatDoorZJFic3
import Derived.Test.YtpapdhoblekoeaaGreatDoorZGTopScore
namespace Go.Proofs.YtpapdhoblekoeaaGreatDoor
open Go Go.Rse Go.RowKit Go.ChangeShapes Go.WideShapes Go.Proofs
theorem eqo3 : (eqOk Tryz.prog 5 3 && decide (5 ≤ 10000)) = true := by kernel_rfl
theorem fl3 : flat Tryz.prog 5 3 = [1] := by kernel_rfl
set_option maxRecDepth 100000 in
theorem topScore_lifted (os : Os) (started : os.Started) (H : Type) (enc : TypeId × Value → H) :
    ReturnsInHanded {} Tryz.checked os 3 .any (fun w args => (Rows.topScoreSpec.pre enc Tryz.prog Tryz.f3 Rows.topScoreRow.domain false w args ∧ laidMetH Tryz.prog laidL w) ∧ sizedMet enc Tryz.prog Tryz.f3 (OpenSpec.ofChange Rows.topScoreSpec) false w args) (Rows.topScoreSpec.post enc Tryz.prog Tryz.f3 false true false false) := by
  refine returnsInHanded_of_change_and (C := Tryz.checked) (X := fun w _ => laidMetH Tryz.prog laidL w) (fun _ _ _ hh h => h.of_heap hh) Tryzown started (by kernel_rfl) Tryz.func3
    (ChangeSpec.witness_at (enc := enc) (C := Tryz.checked) (os := os) (X := fun w _ => laidMetH Tryz.prog laidL w) false (laidWorld os) #[.slice none 0 0, .slice none 0 0, .int .i64 0] 8 rfl (by kernel_rfl) (by kernel_rfl) (by kernel_rfl) (by kernel_rfl) (by kernel_rfl) (laidWorld_met os _)) ?_
  intro W base args ds gs before hval0 hW hcnd _ hL _
  have hval : ∀ (j : Nat) t v, Tryz.f3.params[j]? = some t → args[j]? = some v → Value.okWide Tryz.prog W .any base t v := hval0
  have hW2 := hW
  obtain ⟨p, q, hA0, hV, -, -, -⟩ := hW2
  have hA : DataW.TrodAll enc Tryz.prog W 0 (fun _ => true) true [22, 22, 3] args.toList ds p := hA0
  obtain ⟨args⟩ := args
  obtain ⟨rfl, rfl⟩ := trodVars_none hV
  obtain ⟨v0, us0, d0, es0, p0, q0, hu0, hd0, h0, hA0, -⟩ := Go.Rse.trodAll_cons hA
  obtain ⟨v1, us1, d1, es1, p1, q1, hu1, hd1, h1, hA1, -⟩ := Go.Rse.trodAll_cons hA0
  obtain ⟨v2, us2, d2, es2, p2, q2, hu2, hd2, h2, hA2, -⟩ := Go.Rse.trodAll_cons hA1
  obtain ⟨hun, hdn, -⟩ := Go.Rse.trodAll_nil hA2
  subst hun hdn
  subst hu2 hd2
  subst hu1 hd1
  subst hu0 hd0
  obtain ⟨c0, h0f, h0m, h0r⟩ := open_sl (ρ := noNames) (enc := intE) (dec := intD) (c := 1) Tryz.underlying22 (by kernel_rfl) (by decide) eqo3 fl3 rfl intD_ok (hval 0 _ _ rfl rfl) h0
  obtain ⟨c1, h1f, h1m, h1r⟩ := open_sl (ρ := noNames) (enc := intE) (dec := intD) (c := 1) Tryz.underlying22 (by kernel_rfl) (by decide) eqo3 fl3 rfl intD_ok (hval 1 _ _ rfl rfl) h1
  obtain ⟨c2, h2f, h2r⟩ := Go.Rse.open_int (ρ := noNames) Tryz.underlying3 (hval 2 _ _ rfl rfl) h2
  have c2b := i64_rng h2f
  exact law_calls TryzlaidOut (by kernel_rfl) rfl (tb := 4) rfl Tryz.underlying4 (fun es he => by simp only [List.append_nil] at he; subst he; exact ⟨rfl, rfl, rfl⟩) (C_tactustop_TopScore (c0.map intD) (c1.map intD) c2 (intD_rngs h0f) (intD_rngs h1f) (c2b))
    (Go.Rse.RVL.cons h0r (Go.Rse.RVL.cons h1r (Go.Rse.RVL.cons h2r (⟨rfl, fun j c v hc _ => by simp at hc⟩)))) hW (half_le hL)
theorem topScore_holds : Rows.TopScoreSaid :=
  OpenClaim.holds_of_wide 3 Tryz.f3 rfl rfl rfl rfl rfl rfl rfl ⟨rfl, rfl, rfl, rfl, rfl⟩ rfl rfl rfl rfl rfl topScore_nm Tryz.func3 topScore_jf topScore_in topScore_wr
    (fun os started H enc _ => topScore_lifted os started H enc)
theorem topScore_card : Rows.TopScoreCardSaid :=
  Claim7.holds_tied_plain_at .later [] [.data, .data, .data, .data, .data] true Rows.topScoreCard.stood.harness Rows.topScoreCard.stood.looks topScore_holds (fun _ h => by cases h) (by kernel_rfl) (fun _ h => by cases h) topScore_row_tie rfl ⟨rfl, rfl⟩ (by kernel_rfl) rfl
    (fun f fn hf hfn => by
      obtain rfl : f = 3 := (Option.some.inj (topScore_nm.symm.trans hf)).symm
      obtain rfl : fn = Tryz.f3 := (Option.some.inj (Tryz.func3.symm.trans hfn)).symm
      refine ⟨by kernel_rfl, fun j t ht => ?_⟩
      have h : (Tryz.f3.params.toList.all fun t => !Tryz.prog.wantsStandIn t) = true := by kernel_rfl
      have h2 := List.all_eq_true.1 h t (Array.mem_toList_iff.2 (Array.mem_of_getElem? ht))
      have h3 : Tryz.prog.wantsStandIn t = false := by simpa using h2
      exact h3)
    topScore_gb
end Go.Proofs.YtpapdhoblekoeaaGreatDoor
