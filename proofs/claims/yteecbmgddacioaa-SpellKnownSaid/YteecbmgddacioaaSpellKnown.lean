/-
  The statement SpellKnown holds: the law's function answers true. There are no conditions.
-/
import Derived.Test.YteecbmgddacioaaRow4
import Derived.Test.YteecbmgddacioaaLaw22b
namespace Go.Proofs.Yteecbmgddacioaa
open Go Go.Rse Go.RowKit Go.ChangeShapes Go.WideShapes Go.Proofs
set_option maxRecDepth 100000 in
theorem spellKnown_lifted (os : Os) (started : os.Started) (H : Type) (enc : TypeId × Value → H) :
    ReturnsInHanded {} Try.checked os 21 .any (Rows.spellKnownSpec.pre6 enc Try.prog Try.f21 Rows.spellKnownRow.domain false) (Rows.spellKnownSpec.post enc Try.prog Try.f21 false true false false) := by
  refine returnsInHanded_of_change (C := Try.checked) Tryown started (by kernel_rfl) Try.func21
    (ChangeSpec.witness6 (enc := enc) (C := Try.checked) false ⟨#[], #[], []⟩ 8 (by kernel_rfl) (by kernel_rfl) (by kernel_rfl) (by kernel_rfl)) ?_
  intro W base args ds gs before hval0 hW hcnd _
  have hval : ∀ (j : Nat) t v, Try.f21.params[j]? = some t → args[j]? = some v → Value.okWide Try.prog W .any base t v := hval0
  have hW2 := hW
  obtain ⟨p, q, hA0, hV, -, -, -⟩ := hW2
  have hA : DataW.TrodAll enc Try.prog W 0 (fun _ => true) true [] args.toList ds p := hA0
  obtain ⟨args⟩ := args
  obtain ⟨rfl, rfl⟩ := trodVars_none hV
  obtain ⟨hun, hdn, -⟩ := Go.Rse.trodAll_nil hA
  simp at hun; subst hun; subst hdn
  exact law_calls TrylaidOut (by kernel_rfl) rfl (tb := 4) rfl Try.underlying4 (fun es he => by simp only [List.append_nil] at he; subst he; exact ⟨rfl, rfl, rfl⟩) (C_tactuslaw22_SpellKnown )
    (⟨rfl, fun j c v hc _ => by simp at hc⟩) hW
set_option maxHeartbeats 20000000 in
theorem spellKnown_jf : joinedFacts Try.pinned.checked.prog 21 Try.f21 Rows.spellKnownSpec Rows.spellKnownRow = true := by
  unfold joinedFacts
  simp only [Bool.and_eq_true]
  repeat' apply And.intro
  all_goals (as_aux_lemma => kernel_rfl)
theorem spellKnown_nm : Try.pinned.checked.prog.funcNamed Rows.spellKnownRow.func = some 21 := by kernel_rfl
theorem spellKnown_in : Try.f21.isInstance Try.pinned.checked.prog Rows.spellKnownRow.origin Rows.spellKnownRow.targs := of_decide_eq_true (by kernel_rfl)
theorem spellKnown_wr : Try.f21.isWrapper Try.pinned.checked.prog Rows.spellKnownRow.wrapper Rows.spellKnownRow.mainSum := by
  unfold Func.isWrapper
  first | (rw [if_pos (by decide +kernel)]; kernel_rfl) | (rw [if_neg (by decide +kernel)]; exact ⟨rfl, rfl⟩)
theorem spellKnown_holds : Rows.SpellKnownSaid :=
  OpenClaim.holds_of_wide 21 Try.f21 rfl rfl rfl rfl rfl rfl rfl ⟨rfl, rfl, rfl, rfl, rfl⟩ rfl rfl rfl rfl rfl spellKnown_nm Try.func21 spellKnown_jf spellKnown_in spellKnown_wr
    (fun os started H enc _ => spellKnown_lifted os started H enc)
end Go.Proofs.Yteecbmgddacioaa
