/-
  Walks: the statement on sums and on equality of items.
-/
import Derived.Test.YtmbjfeaipblfcaaGreatDoorTLaw13a
namespace Go.Rse
open Go Go.Proofs Go.RowKit
set_option linter.unusedVariables false
set_option linter.unusedSimpArgs false
section
variable {P : Program} {C : Ctx} {st : St} {ty : TypeId}
end
attribute [local irreducible] Pur StepA StepM Ex X ExG Fn Imp LeV LeB FnO It YStep
def durL (l : List Ite) : List Tm := l.map fun x => x.Dur
theorem durL_get {l : List Ite} {k : Nat} {x : Ite} (h : l[k]? = some x) : (durL l)[k]? = some x.Dur := by unfold durL; rw [List.getElem?_map, h]; rfl
theorem durL_snoc {l : List Ite} {k : Nat} {x : Ite} (h : l[k]? = some x) : durL (l.take k) ++ [x.Dur] = durL (l.take (k + 1)) := by
  unfold durL; rw [← take_snoc h, List.map_append]; rfl
theorem durL_len (l : List Ite) : (durL l).length = l.length := by unfold durL; simp
theorem durL_0 (l : List Ite) : [] = durL (l.take 0) := rfl
theorem sum_bad {L : List Tm} {e : Int} (h : firstT L = e) (h0 : ¬ e = 0) : sumE L = e ∧ sumV L = tmZ := by
  unfold sumE sumV; rw [h, if_neg h0, if_neg h0]; exact ⟨rfl, rfl⟩
attribute [local irreducible] durL sumE sumV sumF firstT ckT addE addV
set_option maxHeartbeats 4000000 in
theorem C_item_Total (l : List Ite) (hl : l.length ≤ 4000000) : Fn Tryz.prog 36 [itsA l] (.tup [tmA (sumV (durL l)), iv (sumE (durL l))]) := by
  have hr0 := durL_0 l
  have hln := durL_len l
  refine Fn.go Tryz.func36 Tryz.ntmps36 (fun g w d => ?_)
  refine X.seq ?_
  refine X.region ?_
  refine Ex.al ?_
  refine Ex.pu ?_
  refine Ex.nil ?_
  refine X.seq ?_
  refine X.region ?_
  refine Ex.pu ?_
  refine Ex.nil ?_
  refine X.seq ?_
  refine X.seq ?_
  refine X.imp (Imp.mkrow tmE 51 2 4 40 rfl rfl) ?_
  refine X.region ?_
  iterate 3 refine Ex.pu ?_
  refine Ex.nil ?_
  refine X.block ?_
  refine X.lp (ι := Nat) (fun (k : Nat) => [(2, .ptr 2 0 0 0), (4, .own 40), (8, itsA l), (9, iv l.length), (10, iv (k : Int))]) (fun (k : Nat) => [(2, .box [iv 0, iv 0] 51), (40, .row tmE (durL (l.take k)) 51 2)]) (fun (k : Nat) => k ≤ l.length ∧ firstT (durL l) = firstT ((durL l).drop k)) (fun (k : Nat) => l.length - k) 0 (fun k hk => ?_) (hJ := by
    exact ⟨by omega, rfl⟩)
  obtain ⟨hk1, hk2⟩ := hk
  refine X.seq ?_
  refine X.region ?_
  refine Ex.pu ?_
  refine Ex.nil ?_
  refine X.seq ?_
  refine X.cd rfl (fun hc1 => ?_) (fun hc1 => ?_)
  · obtain ⟨x, hx⟩ : ∃ x, l[k]? = some x := ⟨_, List.getElem?_eq_getElem (by omega)⟩
    have hx2 : l[(k : Int).toNat]? = some x := by simpa using hx
    have hd := durL_get hx
    have hstep := firstT_step hd
    have hst := durL_snoc hx
    have hln2 : (durL (l.take k)).length ≤ 4000000 := by rw [durL_len, List.length_take]; omega
    refine X.skip ?_
    refine X.seq ?_
    refine X.block ?_
    refine X.seq ?_
    refine X.region ?_
    iterate 2 refine Ex.pu ?_
    refine Ex.al ?_
    refine Ex.mo ?_
    refine Ex.nil ?_
    refine X.seq ?_
    refine X.seq ?_
    refine X.region ?_
    iterate 2 refine Ex.pu ?_
    refine Ex.ca (C_span_Check x.Dur) ?_
    refine Ex.pu ?_
    refine Ex.nil ?_
    refine X.seq ?_
    refine X.region ?_
    iterate 2 refine Ex.pu ?_
    refine Ex.nil ?_
    refine X.cd rfl (fun hc2 => ?_) (fun hc2 => ?_)
    · have hZ := sum_bad (show firstT (durL l) = ckT x.Dur by rw [hk2, hstep, if_neg hc2]) hc2
      have hE := hZ.1
      have hV := hZ.2
      refine X.seq ?_
      refine X.region ?_
      iterate 2 refine Ex.pu ?_
      refine Ex.mo ?_
      refine Ex.pu ?_
      refine Ex.nil ?_
      refine X.ret ?_
      refine RetQ.ret (.many (by decide) (.cons (.cellA rfl rfl rfl rfl ty51 (LeV.eq ?_)) (.cons (.tmp rfl (LeV.eq ?_)) .nil)))
      all_goals (first | (rw [hE]; done) | (rw [hV]; rfl) | (rw [hE]; rfl) | (rw [hV]; done))
    refine X.skip ?_
    refine X.region ?_
    iterate 3 refine Ex.pu ?_
    refine Ex.bs tmE [x.Dur] ?_
    refine Ex.mo ?_
    refine Ex.pu ?_
    refine Ex.nil ?_
    refine X.region ?_
    iterate 2 refine Ex.pu ?_
    refine Ex.nil ?_
    refine X.bk (k + 1) (hJ := by
      exact ⟨by omega, by rw [hk2, hstep, if_pos hc2]⟩)
  · have hkl : k = l.length := by omega
    subst hkl
    have hS : Fn Tryz.prog 92 [tmsA (durL (l.take l.length))] (.tup [tmA (sumV (durL l)), iv (sumE (durL l))]) := by rw [List.take_length]; exact C_span_Sum (durL l) (by omega)
    refine X.exit ?_
    refine X.seq ?_
    refine X.region ?_
    refine Ex.pu ?_
    refine Ex.imp (Imp.freeze (k := 40) rfl) ?_
    refine Ex.ca hS ?_
    iterate 2 refine Ex.pu ?_
    refine Ex.mo ?_
    refine Ex.pu ?_
    refine Ex.nil ?_
    refine X.ret ?_
    refine RetQ.ret (.many (by decide) (.cons (.cellA rfl rfl rfl rfl ty51 (LeV.eq ?_)) (.cons (.tmp rfl (LeV.eq ?_)) .nil)))
    all_goals (rfl)
end Go.Rse
