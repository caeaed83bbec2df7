/-
  The statement ColorLists holds: for every number, every list of numbers and every two numbers the law's function answers true and leaves its arguments as they were. There are no conditions.
-/
import Derived.Test.YteecbmgddacioaaRow4
import Derived.Test.YteecbmgddacioaaLaw11b
namespace Go.Proofs.Yteecbmgddacioaa
open Go Go.Rse Go.RowKit Go.ChangeShapes Go.WideShapes Go.Proofs
set_option maxRecDepth 100000 in
theorem colorLists_lifted (os : Os) (started : os.Started) (H : Type) (enc : TypeId × Value → H) :
    ReturnsInHanded {} Try.checked os 17 .any (Rows.colorListsSpec.pre6 enc Try.prog Try.f17 Rows.colorListsRow.domain false) (Rows.colorListsSpec.post enc Try.prog Try.f17 false true false false) := by
  refine returnsInHanded_of_change (C := Try.checked) Tryown started (by kernel_rfl) Try.func17
    (ChangeSpec.witness6 (enc := enc) (C := Try.checked) false ⟨#[], #[.int .i64 0, .slice none 0 0, .int .i64 0, .int .i64 0], []⟩ 8 (by kernel_rfl) (by kernel_rfl) (by kernel_rfl) (by kernel_rfl)) ?_
  intro W base args ds gs before hval0 hW hcnd _
  have hval : ∀ (j : Nat) t v, Try.f17.params[j]? = some t → args[j]? = some v → Value.okWide Try.prog W .any base t v := hval0
  have hW2 := hW
  obtain ⟨p, q, hA0, hV, -, -, -⟩ := hW2
  have hA : DataW.TrodAll enc Try.prog W 0 (fun _ => true) true [3, 29, 3, 3] args.toList ds p := hA0
  obtain ⟨args⟩ := args
  obtain ⟨rfl, rfl⟩ := trodVars_none hV
  obtain ⟨v0, us0, d0, es0, p0, q0, hu0, hd0, h0, hA0, -⟩ := Go.Rse.trodAll_cons hA
  obtain ⟨v1, us1, d1, es1, p1, q1, hu1, hd1, h1, hA1, -⟩ := Go.Rse.trodAll_cons hA0
  obtain ⟨v2, us2, d2, es2, p2, q2, hu2, hd2, h2, hA2, -⟩ := Go.Rse.trodAll_cons hA1
  obtain ⟨v3, us3, d3, es3, p3, q3, hu3, hd3, h3, hA3, -⟩ := Go.Rse.trodAll_cons hA2
  obtain ⟨hun, hdn, -⟩ := Go.Rse.trodAll_nil hA3
  subst hun hdn
  subst hu3 hd3
  subst hu2 hd2
  subst hu1 hd1
  subst hu0 hd0
  obtain ⟨c0, h0f, h0r⟩ := Go.Rse.open_int (ρ := noNames) Try.underlying3 (hval 0 _ _ rfl rfl) h0
  have c0b := i64_rng h0f
  obtain ⟨c1, h1f, h1m, h1r⟩ := open_sl (ρ := noNames) (enc := intE) (dec := intD) (c := 1) Try.underlying29 (by kernel_rfl) (by decide) eqo3 fl3 rfl intD_ok (hval 1 _ _ rfl rfl) h1
  obtain ⟨c2, h2f, h2r⟩ := Go.Rse.open_int (ρ := noNames) Try.underlying3 (hval 2 _ _ rfl rfl) h2
  have c2b := i64_rng h2f
  obtain ⟨c3, h3f, h3r⟩ := Go.Rse.open_int (ρ := noNames) Try.underlying3 (hval 3 _ _ rfl rfl) h3
  have c3b := i64_rng h3f
  exact law_calls TrylaidOut (by kernel_rfl) rfl (tb := 4) rfl Try.underlying4 (fun es he => by simp only [List.append_nil] at he; subst he; exact ⟨rfl, rfl, rfl⟩) (C_tactuslaw11_ColorLists c0 (c1.map intD) c2 c3 (c0b) (intD_rngs h1f) (by rw [List.length_map]; exact h1m) (c2b) (c3b))
    (Go.Rse.RVL.cons h0r (Go.Rse.RVL.cons h1r (Go.Rse.RVL.cons h2r (Go.Rse.RVL.cons h3r (⟨rfl, fun j c v hc _ => by simp at hc⟩))))) hW
set_option maxHeartbeats 20000000 in
theorem colorLists_jf : joinedFacts Try.pinned.checked.prog 17 Try.f17 Rows.colorListsSpec Rows.colorListsRow = true := by
  unfold joinedFacts
  simp only [Bool.and_eq_true]
  repeat' apply And.intro
  all_goals (as_aux_lemma => kernel_rfl)
theorem colorLists_nm : Try.pinned.checked.prog.funcNamed Rows.colorListsRow.func = some 17 := by kernel_rfl
theorem colorLists_in : Try.f17.isInstance Try.pinned.checked.prog Rows.colorListsRow.origin Rows.colorListsRow.targs := of_decide_eq_true (by kernel_rfl)
theorem colorLists_wr : Try.f17.isWrapper Try.pinned.checked.prog Rows.colorListsRow.wrapper Rows.colorListsRow.mainSum := by
  unfold Func.isWrapper
  first | (rw [if_pos (by decide +kernel)]; kernel_rfl) | (rw [if_neg (by decide +kernel)]; exact ⟨rfl, rfl⟩)
theorem colorLists_holds : Rows.ColorListsSaid :=
  OpenClaim.holds_of_wide 17 Try.f17 rfl rfl rfl rfl rfl rfl rfl ⟨rfl, rfl, rfl, rfl, rfl⟩ rfl rfl rfl rfl rfl colorLists_nm Try.func17 colorLists_jf colorLists_in colorLists_wr
    (fun os started H enc _ => colorLists_lifted os started H enc)
end Go.Proofs.Yteecbmgddacioaa
