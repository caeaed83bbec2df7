/-
  The statement SpellPlain holds: for every number the law's function answers true. There are no conditions.
-/
import Derived.Test.YteecbmgddacioaaRow4
import Derived.Test.YteecbmgddacioaaLaw22b
namespace Go.Proofs.Yteecbmgddacioaa
open Go Go.Rse Go.RowKit Go.ChangeShapes Go.WideShapes Go.Proofs
set_option maxRecDepth 100000 in
theorem spellPlain_lifted (os : Os) (started : os.Started) (H : Type) (enc : TypeId × Value → H) :
    ReturnsInHanded {} Try.checked os 19 .any (Rows.spellPlainSpec.pre6 enc Try.prog Try.f19 Rows.spellPlainRow.domain false) (Rows.spellPlainSpec.post enc Try.prog Try.f19 false true false false) := by
  refine returnsInHanded_of_change (C := Try.checked) Tryown started (by kernel_rfl) Try.func19
    (ChangeSpec.witness6 (enc := enc) (C := Try.checked) false ⟨#[], #[.int .i64 0], []⟩ 8 (by kernel_rfl) (by kernel_rfl) (by kernel_rfl) (by kernel_rfl)) ?_
  intro W base args ds gs before hval0 hW hcnd _
  have hval : ∀ (j : Nat) t v, Try.f19.params[j]? = some t → args[j]? = some v → Value.okWide Try.prog W .any base t v := hval0
  have hW2 := hW
  obtain ⟨p, q, hA0, hV, -, -, -⟩ := hW2
  have hA : DataW.TrodAll enc Try.prog W 0 (fun _ => true) true [3] args.toList ds p := hA0
  obtain ⟨args⟩ := args
  obtain ⟨rfl, rfl⟩ := trodVars_none hV
  obtain ⟨v0, us0, d0, es0, p0, q0, hu0, hd0, h0, hA0, -⟩ := Go.Rse.trodAll_cons hA
  obtain ⟨hun, hdn, -⟩ := Go.Rse.trodAll_nil hA0
  subst hun hdn
  subst hu0 hd0
  obtain ⟨c0, h0f, h0r⟩ := Go.Rse.open_int (ρ := noNames) Try.underlying3 (hval 0 _ _ rfl rfl) h0
  have c0b := i64_rng h0f
  exact law_calls TrylaidOut (by kernel_rfl) rfl (tb := 4) rfl Try.underlying4 (fun es he => by simp only [List.append_nil] at he; subst he; exact ⟨rfl, rfl, rfl⟩) (C_tactuslaw22_SpellPlain c0 (c0b))
    (Go.Rse.RVL.cons h0r (⟨rfl, fun j c v hc _ => by simp at hc⟩)) hW
set_option maxHeartbeats 20000000 in
theorem spellPlain_jf : joinedFacts Try.pinned.checked.prog 19 Try.f19 Rows.spellPlainSpec Rows.spellPlainRow = true := by
  unfold joinedFacts
  simp only [Bool.and_eq_true]
  repeat' apply And.intro
  all_goals (as_aux_lemma => kernel_rfl)
theorem spellPlain_nm : Try.pinned.checked.prog.funcNamed Rows.spellPlainRow.func = some 19 := by kernel_rfl
theorem spellPlain_in : Try.f19.isInstance Try.pinned.checked.prog Rows.spellPlainRow.origin Rows.spellPlainRow.targs := of_decide_eq_true (by kernel_rfl)
theorem spellPlain_wr : Try.f19.isWrapper Try.pinned.checked.prog Rows.spellPlainRow.wrapper Rows.spellPlainRow.mainSum := by
  unfold Func.isWrapper
  first | (rw [if_pos (by decide +kernel)]; kernel_rfl) | (rw [if_neg (by decide +kernel)]; exact ⟨rfl, rfl⟩)
theorem spellPlain_holds : Rows.SpellPlainSaid :=
  OpenClaim.holds_of_wide 19 Try.f19 rfl rfl rfl rfl rfl rfl rfl ⟨rfl, rfl, rfl, rfl, rfl⟩ rfl rfl rfl rfl rfl spellPlain_nm Try.func19 spellPlain_jf spellPlain_in spellPlain_wr
    (fun os started H enc _ => spellPlain_lifted os started H enc)
end Go.Proofs.Yteecbmgddacioaa
