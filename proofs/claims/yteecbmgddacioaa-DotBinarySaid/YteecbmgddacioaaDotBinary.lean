/-
  The statement DotBinary holds: for every list of numbers the law's function answers true and leaves its argument as it was. There are no conditions.
-/
import Derived.Test.YteecbmgddacioaaRow4
import Derived.Test.YteecbmgddacioaaLaw9e
namespace Go.Proofs.Yteecbmgddacioaa
open Go Go.Rse Go.RowKit Go.ChangeShapes Go.WideShapes Go.Proofs
set_option maxRecDepth 100000 in
theorem dotBinary_lifted (os : Os) (started : os.Started) (H : Type) (enc : TypeId × Value → H) :
    ReturnsInHanded {} Try.checked os 9 .any (Rows.dotBinarySpec.pre6 enc Try.prog Try.f9 Rows.dotBinaryRow.domain false) (Rows.dotBinarySpec.post enc Try.prog Try.f9 false true false false) := by
  refine returnsInHanded_of_change (C := Try.checked) Tryown started (by kernel_rfl) Try.func9
    (ChangeSpec.witness6 (enc := enc) (C := Try.checked) false ⟨#[], #[.slice none 0 0], []⟩ 8 (by kernel_rfl) (by kernel_rfl) (by kernel_rfl) (by kernel_rfl)) ?_
  intro W base args ds gs before hval0 hW hcnd _
  have hval : ∀ (j : Nat) t v, Try.f9.params[j]? = some t → args[j]? = some v → Value.okWide Try.prog W .any base t v := hval0
  have hW2 := hW
  obtain ⟨p, q, hA0, hV, -, -, -⟩ := hW2
  have hA : DataW.TrodAll enc Try.prog W 0 (fun _ => true) true [29] args.toList ds p := hA0
  obtain ⟨args⟩ := args
  obtain ⟨rfl, rfl⟩ := trodVars_none hV
  obtain ⟨v0, us0, d0, es0, p0, q0, hu0, hd0, h0, hA0, -⟩ := Go.Rse.trodAll_cons hA
  obtain ⟨hun, hdn, -⟩ := Go.Rse.trodAll_nil hA0
  subst hun hdn
  subst hu0 hd0
  obtain ⟨c0, h0f, h0m, h0r⟩ := open_sl (ρ := noNames) (enc := intE) (dec := intD) (c := 1) Try.underlying29 (by kernel_rfl) (by decide) eqo3 fl3 rfl intD_ok (hval 0 _ _ rfl rfl) h0
  exact law_calls TrylaidOut (by kernel_rfl) rfl (tb := 4) rfl Try.underlying4 (fun es he => by simp only [List.append_nil] at he; subst he; exact ⟨rfl, rfl, rfl⟩) (C_tactuslaw09_DotBinary (c0.map intD) (intD_rngs h0f))
    (Go.Rse.RVL.cons h0r (⟨rfl, fun j c v hc _ => by simp at hc⟩)) hW
set_option maxHeartbeats 20000000 in
theorem dotBinary_jf : joinedFacts Try.pinned.checked.prog 9 Try.f9 Rows.dotBinarySpec Rows.dotBinaryRow = true := by
  unfold joinedFacts
  simp only [Bool.and_eq_true]
  repeat' apply And.intro
  all_goals (as_aux_lemma => kernel_rfl)
theorem dotBinary_nm : Try.pinned.checked.prog.funcNamed Rows.dotBinaryRow.func = some 9 := by kernel_rfl
theorem dotBinary_in : Try.f9.isInstance Try.pinned.checked.prog Rows.dotBinaryRow.origin Rows.dotBinaryRow.targs := of_decide_eq_true (by kernel_rfl)
theorem dotBinary_wr : Try.f9.isWrapper Try.pinned.checked.prog Rows.dotBinaryRow.wrapper Rows.dotBinaryRow.mainSum := by
  unfold Func.isWrapper
  first | (rw [if_pos (by decide +kernel)]; kernel_rfl) | (rw [if_neg (by decide +kernel)]; exact ⟨rfl, rfl⟩)
theorem dotBinary_holds : Rows.DotBinarySaid :=
  OpenClaim.holds_of_wide 9 Try.f9 rfl rfl rfl rfl rfl rfl rfl ⟨rfl, rfl, rfl, rfl, rfl⟩ rfl rfl rfl rfl rfl dotBinary_nm Try.func9 dotBinary_jf dotBinary_in dotBinary_wr
    (fun os started H enc _ => dotBinary_lifted os started H enc)
end Go.Proofs.Yteecbmgddacioaa
