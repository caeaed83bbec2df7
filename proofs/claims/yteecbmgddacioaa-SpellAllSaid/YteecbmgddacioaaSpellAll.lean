/-
  The statement SpellAll holds: for every mensuration and every time the law's function answers true. There are no conditions.
-/
import Derived.Test.YteecbmgddacioaaRow4
import Derived.Test.YteecbmgddacioaaLaw22d
namespace Go.Proofs.Yteecbmgddacioaa
open Go Go.Rse Go.RowKit Go.ChangeShapes Go.WideShapes Go.Proofs
set_option maxRecDepth 100000 in
theorem spellAll_lifted (os : Os) (started : os.Started) (H : Type) (enc : TypeId × Value → H) :
    ReturnsInHanded {} Try.checked os 18 .any (Rows.spellAllSpec.pre6 enc Try.prog Try.f18 Rows.spellAllRow.domain false) (Rows.spellAllSpec.post enc Try.prog Try.f18 false true false false) := by
  refine returnsInHanded_of_change (C := Try.checked) Tryown started (by kernel_rfl) Try.func18
    (ChangeSpec.witness6 (enc := enc) (C := Try.checked) false ⟨#[], #[.agg #[.int .i64 0, .int .i64 0, .int .i64 0, .int .i64 0], .agg #[.int .i64 0, .int .i64 0]], []⟩ 8 (by kernel_rfl) (by kernel_rfl) (by kernel_rfl) (by kernel_rfl)) ?_
  intro W base args ds gs before hval0 hW hcnd _
  have hval : ∀ (j : Nat) t v, Try.f18.params[j]? = some t → args[j]? = some v → Value.okWide Try.prog W .any base t v := hval0
  have hW2 := hW
  obtain ⟨p, q, hA0, hV, -, -, -⟩ := hW2
  have hA : DataW.TrodAll enc Try.prog W 0 (fun _ => true) true [23, 26] args.toList ds p := hA0
  obtain ⟨args⟩ := args
  obtain ⟨rfl, rfl⟩ := trodVars_none hV
  obtain ⟨v0, us0, d0, es0, p0, q0, hu0, hd0, h0, hA0, -⟩ := Go.Rse.trodAll_cons hA
  obtain ⟨v1, us1, d1, es1, p1, q1, hu1, hd1, h1, hA1, -⟩ := Go.Rse.trodAll_cons hA0
  obtain ⟨hun, hdn, -⟩ := Go.Rse.trodAll_nil hA1
  subst hun hdn
  subst hu1 hd1
  subst hu0 hd0
  obtain ⟨c0, h0f, h0r⟩ := open_st (ρ := noNames) (enc := mnE) (dec := mnD) ⟨_, Try.underlying23⟩ eqo23 fl23 mnD_ok (hval 0 _ _ rfl rfl) h0
  obtain ⟨c1, h1f, h1r⟩ := open_st (ρ := noNames) (enc := tmE) (dec := tmD) ⟨_, Try.underlying26⟩ eqo26 fl26 tmD_ok (hval 1 _ _ rfl rfl) h1
  exact law_calls TrylaidOut (by kernel_rfl) rfl (tb := 4) rfl Try.underlying4 (fun es he => by simp only [List.append_nil] at he; subst he; exact ⟨rfl, rfl, rfl⟩) (C_tactuslaw22_SpellAll (mnD c0) (tmD c1))
    (Go.Rse.RVL.cons h0r (Go.Rse.RVL.cons h1r (⟨rfl, fun j c v hc _ => by simp at hc⟩))) hW
set_option maxHeartbeats 20000000 in
theorem spellAll_jf : joinedFacts Try.pinned.checked.prog 18 Try.f18 Rows.spellAllSpec Rows.spellAllRow = true := by
  unfold joinedFacts
  simp only [Bool.and_eq_true]
  repeat' apply And.intro
  all_goals (as_aux_lemma => kernel_rfl)
theorem spellAll_nm : Try.pinned.checked.prog.funcNamed Rows.spellAllRow.func = some 18 := by kernel_rfl
theorem spellAll_in : Try.f18.isInstance Try.pinned.checked.prog Rows.spellAllRow.origin Rows.spellAllRow.targs := of_decide_eq_true (by kernel_rfl)
theorem spellAll_wr : Try.f18.isWrapper Try.pinned.checked.prog Rows.spellAllRow.wrapper Rows.spellAllRow.mainSum := by
  unfold Func.isWrapper
  first | (rw [if_pos (by decide +kernel)]; kernel_rfl) | (rw [if_neg (by decide +kernel)]; exact ⟨rfl, rfl⟩)
theorem spellAll_holds : Rows.SpellAllSaid :=
  OpenClaim.holds_of_wide 18 Try.f18 rfl rfl rfl rfl rfl rfl rfl ⟨rfl, rfl, rfl, rfl, rfl⟩ rfl rfl rfl rfl rfl spellAll_nm Try.func18 spellAll_jf spellAll_in spellAll_wr
    (fun os started H enc _ => spellAll_lifted os started H enc)
end Go.Proofs.Yteecbmgddacioaa
