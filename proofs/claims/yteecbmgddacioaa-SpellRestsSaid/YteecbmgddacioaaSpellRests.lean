/-
  The statement SpellRests holds: for every three numbers the law's function answers true. There are no conditions.
-/
import Derived.Test.YteecbmgddacioaaRow4
import Derived.Test.YteecbmgddacioaaLaw22a
namespace Go.Proofs.Yteecbmgddacioaa
open Go Go.Rse Go.RowKit Go.ChangeShapes Go.WideShapes Go.Proofs
set_option maxRecDepth 100000 in
theorem spellRests_lifted (os : Os) (started : os.Started) (H : Type) (enc : TypeId × Value → H) :
    ReturnsInHanded {} Try.checked os 3 .any (Rows.spellRestsSpec.pre6 enc Try.prog Try.f3 Rows.spellRestsRow.domain false) (Rows.spellRestsSpec.post enc Try.prog Try.f3 false true false false) := by
  refine returnsInHanded_of_change (C := Try.checked) Tryown started (by kernel_rfl) Try.func3
    (ChangeSpec.witness6 (enc := enc) (C := Try.checked) false ⟨#[], #[.int .i64 0, .int .i64 0, .int .i64 0], []⟩ 8 (by kernel_rfl) (by kernel_rfl) (by kernel_rfl) (by kernel_rfl)) ?_
  intro W base args ds gs before hval0 hW hcnd _
  have hval : ∀ (j : Nat) t v, Try.f3.params[j]? = some t → args[j]? = some v → Value.okWide Try.prog W .any base t v := hval0
  have hW2 := hW
  obtain ⟨p, q, hA0, hV, -, -, -⟩ := hW2
  have hA : DataW.TrodAll enc Try.prog W 0 (fun _ => true) true [3, 3, 3] args.toList ds p := hA0
  obtain ⟨args⟩ := args
  obtain ⟨rfl, rfl⟩ := trodVars_none hV
  obtain ⟨v0, us0, d0, es0, p0, q0, hu0, hd0, h0, hA0, -⟩ := Go.Rse.trodAll_cons hA
  obtain ⟨v1, us1, d1, es1, p1, q1, hu1, hd1, h1, hA1, -⟩ := Go.Rse.trodAll_cons hA0
  obtain ⟨v2, us2, d2, es2, p2, q2, hu2, hd2, h2, hA2, -⟩ := Go.Rse.trodAll_cons hA1
  obtain ⟨hun, hdn, -⟩ := Go.Rse.trodAll_nil hA2
  subst hun hdn
  subst hu2 hd2
  subst hu1 hd1
  subst hu0 hd0
  obtain ⟨c0, h0f, h0r⟩ := Go.Rse.open_int (ρ := noNames) Try.underlying3 (hval 0 _ _ rfl rfl) h0
  have c0b := i64_rng h0f
  obtain ⟨c1, h1f, h1r⟩ := Go.Rse.open_int (ρ := noNames) Try.underlying3 (hval 1 _ _ rfl rfl) h1
  have c1b := i64_rng h1f
  obtain ⟨c2, h2f, h2r⟩ := Go.Rse.open_int (ρ := noNames) Try.underlying3 (hval 2 _ _ rfl rfl) h2
  have c2b := i64_rng h2f
  exact law_calls TrylaidOut (by kernel_rfl) rfl (tb := 4) rfl Try.underlying4 (fun es he => by simp only [List.append_nil] at he; subst he; exact ⟨rfl, rfl, rfl⟩) (C_tactuslaw22_SpellRests c0 c1 c2 (c0b) (c1b) (c2b))
    (Go.Rse.RVL.cons h0r (Go.Rse.RVL.cons h1r (Go.Rse.RVL.cons h2r (⟨rfl, fun j c v hc _ => by simp at hc⟩)))) hW
set_option maxHeartbeats 20000000 in
theorem spellRests_jf : joinedFacts Try.pinned.checked.prog 3 Try.f3 Rows.spellRestsSpec Rows.spellRestsRow = true := by
  unfold joinedFacts
  simp only [Bool.and_eq_true]
  repeat' apply And.intro
  all_goals (as_aux_lemma => kernel_rfl)
theorem spellRests_nm : Try.pinned.checked.prog.funcNamed Rows.spellRestsRow.func = some 3 := by kernel_rfl
theorem spellRests_in : Try.f3.isInstance Try.pinned.checked.prog Rows.spellRestsRow.origin Rows.spellRestsRow.targs := of_decide_eq_true (by kernel_rfl)
theorem spellRests_wr : Try.f3.isWrapper Try.pinned.checked.prog Rows.spellRestsRow.wrapper Rows.spellRestsRow.mainSum := by
  unfold Func.isWrapper
  first | (rw [if_pos (by decide +kernel)]; kernel_rfl) | (rw [if_neg (by decide +kernel)]; exact ⟨rfl, rfl⟩)
theorem spellRests_holds : Rows.SpellRestsSaid :=
  OpenClaim.holds_of_wide 3 Try.f3 rfl rfl rfl rfl rfl rfl rfl ⟨rfl, rfl, rfl, rfl, rfl⟩ rfl rfl rfl rfl rfl spellRests_nm Try.func3 spellRests_jf spellRests_in spellRests_wr
    (fun os started H enc _ => spellRests_lifted os started H enc)
end Go.Proofs.Yteecbmgddacioaa
