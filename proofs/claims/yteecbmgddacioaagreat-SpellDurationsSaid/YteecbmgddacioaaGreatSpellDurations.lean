/-
  The statement SpellDurations holds: for every mensuration, every spelling and every place the law's function answers true. There are no conditions.
-/
import Derived.Test.YteecbmgddacioaaGreatRow4
import Derived.Test.YteecbmgddacioaaGreatLaw22e
import Derived.Test.YteecbmgddacioaaGreatRow5
namespace Go.Proofs.YteecbmgddacioaaGreat
open Go Go.Rse Go.RowKit Go.ChangeShapes Go.WideShapes Go.Proofs
set_option maxRecDepth 100000 in
theorem spellDurations_lifted (os : Os) (started : os.Started) (H : Type) (enc : TypeId × Value → H) :
    ReturnsInHanded {} Tryz.checked os 3 .any (Rows.spellDurationsSpec.pre6 enc Tryz.prog Tryz.f3 Rows.spellDurationsRow.domain false) (Rows.spellDurationsSpec.post enc Tryz.prog Tryz.f3 false true false false) := by
  refine returnsInHanded_of_change (C := Tryz.checked) Tryzown started (by kernel_rfl) Tryz.func3
    (ChangeSpec.witness6 (enc := enc) (C := Tryz.checked) false ⟨#[], #[.agg #[.int .i64 0, .int .i64 0, .int .i64 0, .int .i64 0], .agg #[.int .i64 0, .bool false, .bool false, .bool false, .int .i64 0], .int .i64 0], []⟩ 8 (by kernel_rfl) (by kernel_rfl) (by kernel_rfl) (by kernel_rfl)) ?_
  intro W base args ds gs before hval0 hW hcnd _
  have hval : ∀ (j : Nat) t v, Tryz.f3.params[j]? = some t → args[j]? = some v → Value.okWide Tryz.prog W .any base t v := hval0
  have hW2 := hW
  obtain ⟨p, q, hA0, hV, -, -, -⟩ := hW2
  have hA : DataW.TrodAll enc Tryz.prog W 0 (fun _ => true) true [23, 25, 3] args.toList ds p := hA0
  obtain ⟨args⟩ := args
  obtain ⟨rfl, rfl⟩ := trodVars_none hV
  obtain ⟨v0, us0, d0, es0, p0, q0, hu0, hd0, h0, hA0, -⟩ := Go.Rse.trodAll_cons hA
  obtain ⟨v1, us1, d1, es1, p1, q1, hu1, hd1, h1, hA1, -⟩ := Go.Rse.trodAll_cons hA0
  obtain ⟨v2, us2, d2, es2, p2, q2, hu2, hd2, h2, hA2, -⟩ := Go.Rse.trodAll_cons hA1
  obtain ⟨hun, hdn, -⟩ := Go.Rse.trodAll_nil hA2
  subst hun hdn
  subst hu2 hd2
  subst hu1 hd1
  subst hu0 hd0
  obtain ⟨c0, h0f, h0r⟩ := open_st (ρ := noNames) (enc := mnE) (dec := mnD) ⟨_, Tryz.underlying23⟩ eqo23 fl23 mnD_ok (hval 0 _ _ rfl rfl) h0
  obtain ⟨c1, h1f, h1r⟩ := open_st (ρ := noNames) (enc := spE) (dec := spD) ⟨_, Tryz.underlying25⟩ eqo25 fl25 spD_ok (hval 1 _ _ rfl rfl) h1
  obtain ⟨c2, h2f, h2r⟩ := Go.Rse.open_int (ρ := noNames) Tryz.underlying3 (hval 2 _ _ rfl rfl) h2
  have c2b := i64_rng h2f
  exact law_calls TryzlaidOut (by kernel_rfl) rfl (tb := 4) rfl Tryz.underlying4 (fun es he => by simp only [List.append_nil] at he; subst he; exact ⟨rfl, rfl, rfl⟩) (C_tactuslaw22_SpellDurations (mnD c0) (spD c1) c2)
    (Go.Rse.RVL.cons h0r (Go.Rse.RVL.cons h1r (Go.Rse.RVL.cons h2r (⟨rfl, fun j c v hc _ => by simp at hc⟩)))) hW
set_option maxHeartbeats 20000000 in
theorem spellDurations_jf : joinedFacts Tryz.pinned.checked.prog 3 Tryz.f3 Rows.spellDurationsSpec Rows.spellDurationsRow = true := by
  unfold joinedFacts
  simp only [Bool.and_eq_true]
  repeat' apply And.intro
  all_goals (as_aux_lemma => kernel_rfl)
theorem spellDurations_nm : Tryz.pinned.checked.prog.funcNamed Rows.spellDurationsRow.func = some 3 := by kernel_rfl
theorem spellDurations_in : Tryz.f3.isInstance Tryz.pinned.checked.prog Rows.spellDurationsRow.origin Rows.spellDurationsRow.targs := of_decide_eq_true (by kernel_rfl)
theorem spellDurations_wr : Tryz.f3.isWrapper Tryz.pinned.checked.prog Rows.spellDurationsRow.wrapper Rows.spellDurationsRow.mainSum := by
  unfold Func.isWrapper
  first | (rw [if_pos (by decide +kernel)]; kernel_rfl) | (rw [if_neg (by decide +kernel)]; exact ⟨rfl, rfl⟩)
theorem spellDurations_holds : Rows.SpellDurationsSaid :=
  OpenClaim.holds_of_wide 3 Tryz.f3 rfl rfl rfl rfl rfl rfl rfl ⟨rfl, rfl, rfl, rfl, rfl⟩ rfl rfl rfl rfl rfl spellDurations_nm Tryz.func3 spellDurations_jf spellDurations_in spellDurations_wr
    (fun os started H enc _ => spellDurations_lifted os started H enc)
end Go.Proofs.YteecbmgddacioaaGreat
