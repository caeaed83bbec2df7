/-
  The statement SpellTables holds: for every two numbers the law's function answers true. There are no conditions.
-/
import Derived.Test.YteecbmgddacioaaRow4
import Derived.Test.YteecbmgddacioaaLaw22c
namespace Go.Proofs.Yteecbmgddacioaa
open Go Go.Rse Go.RowKit Go.ChangeShapes Go.WideShapes Go.Proofs
set_option maxRecDepth 100000 in
theorem spellTables_lifted (os : Os) (started : os.Started) (H : Type) (enc : TypeId × Value → H) :
    ReturnsInHanded {} Try.checked os 20 .any (Rows.spellTablesSpec.pre6 enc Try.prog Try.f20 Rows.spellTablesRow.domain false) (Rows.spellTablesSpec.post enc Try.prog Try.f20 false true false false) := by
  refine returnsInHanded_of_change (C := Try.checked) Tryown started (by kernel_rfl) Try.func20
    (ChangeSpec.witness6 (enc := enc) (C := Try.checked) false ⟨#[], #[.int .i64 0, .int .i64 0], []⟩ 8 (by kernel_rfl) (by kernel_rfl) (by kernel_rfl) (by kernel_rfl)) ?_
  intro W base args ds gs before hval0 hW hcnd _
  have hval : ∀ (j : Nat) t v, Try.f20.params[j]? = some t → args[j]? = some v → Value.okWide Try.prog W .any base t v := hval0
  have hW2 := hW
  obtain ⟨p, q, hA0, hV, -, -, -⟩ := hW2
  have hA : DataW.TrodAll enc Try.prog W 0 (fun _ => true) true [3, 3] args.toList ds p := hA0
  obtain ⟨args⟩ := args
  obtain ⟨rfl, rfl⟩ := trodVars_none hV
  obtain ⟨v0, us0, d0, es0, p0, q0, hu0, hd0, h0, hA0, -⟩ := Go.Rse.trodAll_cons hA
  obtain ⟨v1, us1, d1, es1, p1, q1, hu1, hd1, h1, hA1, -⟩ := Go.Rse.trodAll_cons hA0
  obtain ⟨hun, hdn, -⟩ := Go.Rse.trodAll_nil hA1
  subst hun hdn
  subst hu1 hd1
  subst hu0 hd0
  obtain ⟨c0, h0f, h0r⟩ := Go.Rse.open_int (ρ := noNames) Try.underlying3 (hval 0 _ _ rfl rfl) h0
  have c0b := i64_rng h0f
  obtain ⟨c1, h1f, h1r⟩ := Go.Rse.open_int (ρ := noNames) Try.underlying3 (hval 1 _ _ rfl rfl) h1
  have c1b := i64_rng h1f
  exact law_calls TrylaidOut (by kernel_rfl) rfl (tb := 4) rfl Try.underlying4 (fun es he => by simp only [List.append_nil] at he; subst he; exact ⟨rfl, rfl, rfl⟩) (C_tactuslaw22_SpellTables c0 c1 (c0b) (c1b))
    (Go.Rse.RVL.cons h0r (Go.Rse.RVL.cons h1r (⟨rfl, fun j c v hc _ => by simp at hc⟩))) hW
set_option maxHeartbeats 20000000 in
theorem spellTables_jf : joinedFacts Try.pinned.checked.prog 20 Try.f20 Rows.spellTablesSpec Rows.spellTablesRow = true := by
  unfold joinedFacts
  simp only [Bool.and_eq_true]
  repeat' apply And.intro
  all_goals (as_aux_lemma => kernel_rfl)
theorem spellTables_nm : Try.pinned.checked.prog.funcNamed Rows.spellTablesRow.func = some 20 := by kernel_rfl
theorem spellTables_in : Try.f20.isInstance Try.pinned.checked.prog Rows.spellTablesRow.origin Rows.spellTablesRow.targs := of_decide_eq_true (by kernel_rfl)
theorem spellTables_wr : Try.f20.isWrapper Try.pinned.checked.prog Rows.spellTablesRow.wrapper Rows.spellTablesRow.mainSum := by
  unfold Func.isWrapper
  first | (rw [if_pos (by decide +kernel)]; kernel_rfl) | (rw [if_neg (by decide +kernel)]; exact ⟨rfl, rfl⟩)
theorem spellTables_holds : Rows.SpellTablesSaid :=
  OpenClaim.holds_of_wide 20 Try.f20 rfl rfl rfl rfl rfl rfl rfl ⟨rfl, rfl, rfl, rfl, rfl⟩ rfl rfl rfl rfl rfl spellTables_nm Try.func20 spellTables_jf spellTables_in spellTables_wr
    (fun os started H enc _ => spellTables_lifted os started H enc)
end Go.Proofs.Yteecbmgddacioaa
