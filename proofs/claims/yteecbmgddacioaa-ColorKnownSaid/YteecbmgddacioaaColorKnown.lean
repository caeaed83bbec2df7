/-
  The statement ColorKnown holds: the law's function answers true. There are no conditions.
-/
import Derived.Test.YteecbmgddacioaaRow4
import Derived.Test.YteecbmgddacioaaLaw11d
namespace Go.Proofs.Yteecbmgddacioaa
open Go Go.Rse Go.RowKit Go.ChangeShapes Go.WideShapes Go.Proofs
set_option maxRecDepth 100000 in
theorem colorKnown_lifted (os : Os) (started : os.Started) (H : Type) (enc : TypeId × Value → H) :
    ReturnsInHanded {} Try.checked os 15 .any (Rows.colorKnownSpec.pre6 enc Try.prog Try.f15 Rows.colorKnownRow.domain false) (Rows.colorKnownSpec.post enc Try.prog Try.f15 false true false false) := by
  refine returnsInHanded_of_change (C := Try.checked) Tryown started (by kernel_rfl) Try.func15
    (ChangeSpec.witness6 (enc := enc) (C := Try.checked) false ⟨#[], #[], []⟩ 8 (by kernel_rfl) (by kernel_rfl) (by kernel_rfl) (by kernel_rfl)) ?_
  intro W base args ds gs before hval0 hW hcnd _
  have hval : ∀ (j : Nat) t v, Try.f15.params[j]? = some t → args[j]? = some v → Value.okWide Try.prog W .any base t v := hval0
  have hW2 := hW
  obtain ⟨p, q, hA0, hV, -, -, -⟩ := hW2
  have hA : DataW.TrodAll enc Try.prog W 0 (fun _ => true) true [] args.toList ds p := hA0
  obtain ⟨args⟩ := args
  obtain ⟨rfl, rfl⟩ := trodVars_none hV
  obtain ⟨hun, hdn, -⟩ := Go.Rse.trodAll_nil hA
  simp at hun; subst hun; subst hdn
  exact law_calls TrylaidOut (by kernel_rfl) rfl (tb := 4) rfl Try.underlying4 (fun es he => by simp only [List.append_nil] at he; subst he; exact ⟨rfl, rfl, rfl⟩) (C_tactuslaw11_ColorKnown )
    (⟨rfl, fun j c v hc _ => by simp at hc⟩) hW
set_option maxHeartbeats 20000000 in
theorem colorKnown_jf : joinedFacts Try.pinned.checked.prog 15 Try.f15 Rows.colorKnownSpec Rows.colorKnownRow = true := by
  unfold joinedFacts
  simp only [Bool.and_eq_true]
  repeat' apply And.intro
  all_goals (as_aux_lemma => kernel_rfl)
theorem colorKnown_nm : Try.pinned.checked.prog.funcNamed Rows.colorKnownRow.func = some 15 := by kernel_rfl
theorem colorKnown_in : Try.f15.isInstance Try.pinned.checked.prog Rows.colorKnownRow.origin Rows.colorKnownRow.targs := of_decide_eq_true (by kernel_rfl)
theorem colorKnown_wr : Try.f15.isWrapper Try.pinned.checked.prog Rows.colorKnownRow.wrapper Rows.colorKnownRow.mainSum := by
  unfold Func.isWrapper
  first | (rw [if_pos (by decide +kernel)]; kernel_rfl) | (rw [if_neg (by decide +kernel)]; exact ⟨rfl, rfl⟩)
theorem colorKnown_holds : Rows.ColorKnownSaid :=
  OpenClaim.holds_of_wide 15 Try.f15 rfl rfl rfl rfl rfl rfl rfl ⟨rfl, rfl, rfl, rfl, rfl⟩ rfl rfl rfl rfl rfl colorKnown_nm Try.func15 colorKnown_jf colorKnown_in colorKnown_wr
    (fun os started H enc _ => colorKnown_lifted os started H enc)
end Go.Proofs.Yteecbmgddacioaa
