/-
  The statement ColorApart holds: for every number and list of numbers the law's function answers true and leaves its arguments as they were. There are no conditions.
-/
import Derived.Test.YteecbmgddacioaaRow4
import Derived.Test.YteecbmgddacioaaLaw11c
namespace Go.Proofs.Yteecbmgddacioaa
open Go Go.Rse Go.RowKit Go.ChangeShapes Go.WideShapes Go.Proofs
set_option maxRecDepth 100000 in
theorem colorApart_lifted (os : Os) (started : os.Started) (H : Type) (enc : TypeId × Value → H) :
    ReturnsInHanded {} Try.checked os 13 .any (Rows.colorApartSpec.pre6 enc Try.prog Try.f13 Rows.colorApartRow.domain false) (Rows.colorApartSpec.post enc Try.prog Try.f13 false true false false) := by
  refine returnsInHanded_of_change (C := Try.checked) Tryown started (by kernel_rfl) Try.func13
    (ChangeSpec.witness6 (enc := enc) (C := Try.checked) false ⟨#[], #[.int .i64 0, .slice none 0 0], []⟩ 8 (by kernel_rfl) (by kernel_rfl) (by kernel_rfl) (by kernel_rfl)) ?_
  intro W base args ds gs before hval0 hW hcnd _
  have hval : ∀ (j : Nat) t v, Try.f13.params[j]? = some t → args[j]? = some v → Value.okWide Try.prog W .any base t v := hval0
  have hW2 := hW
  obtain ⟨p, q, hA0, hV, -, -, -⟩ := hW2
  have hA : DataW.TrodAll enc Try.prog W 0 (fun _ => true) true [3, 29] args.toList ds p := hA0
  obtain ⟨args⟩ := args
  obtain ⟨rfl, rfl⟩ := trodVars_none hV
  obtain ⟨v0, us0, d0, es0, p0, q0, hu0, hd0, h0, hA0, -⟩ := Go.Rse.trodAll_cons hA
  obtain ⟨v1, us1, d1, es1, p1, q1, hu1, hd1, h1, hA1, -⟩ := Go.Rse.trodAll_cons hA0
  obtain ⟨hun, hdn, -⟩ := Go.Rse.trodAll_nil hA1
  subst hun hdn
  subst hu1 hd1
  subst hu0 hd0
  obtain ⟨c0, h0f, h0r⟩ := Go.Rse.open_int (ρ := noNames) Try.underlying3 (hval 0 _ _ rfl rfl) h0
  have c0b := i64_rng h0f
  obtain ⟨c1, h1f, h1m, h1r⟩ := open_sl (ρ := noNames) (enc := intE) (dec := intD) (c := 1) Try.underlying29 (by kernel_rfl) (by decide) eqo3 fl3 rfl intD_ok (hval 1 _ _ rfl rfl) h1
  exact law_calls TrylaidOut (by kernel_rfl) rfl (tb := 4) rfl Try.underlying4 (fun es he => by simp only [List.append_nil] at he; subst he; exact ⟨rfl, rfl, rfl⟩) (C_tactuslaw11_ColorApart c0 (c1.map intD) (c0b) (intD_rngs h1f) (by rw [List.length_map]; exact h1m))
    (Go.Rse.RVL.cons h0r (Go.Rse.RVL.cons h1r (⟨rfl, fun j c v hc _ => by simp at hc⟩))) hW
set_option maxHeartbeats 20000000 in
theorem colorApart_jf : joinedFacts Try.pinned.checked.prog 13 Try.f13 Rows.colorApartSpec Rows.colorApartRow = true := by
  unfold joinedFacts
  simp only [Bool.and_eq_true]
  repeat' apply And.intro
  all_goals (as_aux_lemma => kernel_rfl)
theorem colorApart_nm : Try.pinned.checked.prog.funcNamed Rows.colorApartRow.func = some 13 := by kernel_rfl
theorem colorApart_in : Try.f13.isInstance Try.pinned.checked.prog Rows.colorApartRow.origin Rows.colorApartRow.targs := of_decide_eq_true (by kernel_rfl)
theorem colorApart_wr : Try.f13.isWrapper Try.pinned.checked.prog Rows.colorApartRow.wrapper Rows.colorApartRow.mainSum := by
  unfold Func.isWrapper
  first | (rw [if_pos (by decide +kernel)]; kernel_rfl) | (rw [if_neg (by decide +kernel)]; exact ⟨rfl, rfl⟩)
theorem colorApart_holds : Rows.ColorApartSaid :=
  OpenClaim.holds_of_wide 13 Try.f13 rfl rfl rfl rfl rfl rfl rfl ⟨rfl, rfl, rfl, rfl, rfl⟩ rfl rfl rfl rfl rfl colorApart_nm Try.func13 colorApart_jf colorApart_in colorApart_wr
    (fun os started H enc _ => colorApart_lifted os started H enc)
end Go.Proofs.Yteecbmgddacioaa
