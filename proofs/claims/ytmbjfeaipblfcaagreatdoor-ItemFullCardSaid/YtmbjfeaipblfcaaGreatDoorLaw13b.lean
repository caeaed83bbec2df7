/-
  Walks: the statement on sums and on equality of items.
-/
import Derived.Test.YtmbjfeaipblfcaaGreatDoorLaw13a
namespace Go.Rse
open Go Go.Proofs Go.RowKit
set_option linter.unusedVariables false
set_option linter.unusedSimpArgs false
section
variable {P : Program} {C : Ctx} {st : St} {ty : TypeId}
/-- A part of an element known for good. -/
theorem P_load_ept_pt {α : Type} {enc : α → List AV} {u : α} {t : TypeId} {x : Operand} {n j : Nat} {ys : List AV} (hx : ev st x = some (.ept enc u j)) (hy : ((enc u).drop j).take n = ys) (hl : ys.length = n) (hn : AV.nm.nmL ys = true)
    (ht : tyOk P t true n = true) : Pur P C (.load t x) ty st (.agg ys) := fun g a w dst pos af gd hr => by
  obtain ⟨b, o, vs, e, h1, h2⟩ := inv_ept (ev_rv hr hx)
  have hlen : ((List.range n).map fun i => vs (j + i)).length = n := by simp
  have hget : ∀ i c, ys[i]? = some c → i < n ∧ (enc u)[j + i]? = some c := fun i c hc => by
    have hi : i < n := by rw [← hl]; exact (List.getElem?_eq_some_iff.1 hc).1
    rw [← hy, List.getElem?_take, if_pos hi, List.getElem?_drop] at hc
    exact ⟨hi, hc⟩
  refine ⟨.agg ((List.range n).map fun i => vs (j + i)).toArray, ?_, .agg _ _ (by rw [hlen, hl]) (fun i c v hc hv => ?_)⟩
  · have := run_loadVar_agg (P := P) (t := t) ht (b := b) (o := o + j) (w := w) (vs := (List.range n).map fun i => vs (j + i)) hlen (fun i v hv => by
      rw [List.getElem?_map] at hv
      by_cases hi : i < n
      · simp [List.getElem?_range hi] at hv
        subst hv
        have hc : i < ys.length := by omega
        have hz := (hget i _ (List.getElem?_eq_getElem hc)).2
        have := (hr.sat.im _ _ _ (h1 (j + i) (List.getElem?_eq_some_iff.1 hz).1)).1
        rw [Nat.add_assoc]; exact this
      · simp [List.getElem?_eq_none (l := List.range n) (i := i) (by simp; omega)] at hv)
    simp only [execOp, e, Sem.run_bind, Instr.loadAt, Instr.sureAddr, Sem.run_pure, Result.andThen_ok, this]
  · obtain ⟨hi, hz⟩ := hget i c hc
    rw [List.getElem?_map, List.getElem?_range hi] at hv
    simp at hv; subst hv
    exact (h2 (j + i) c hz).forget (AV.nmL_get hn hc)
end
attribute [local irreducible] Pur StepA StepM Ex X ExG Fn Imp LeV LeB FnO It YStep
def durL (l : List Ite) : List Tm := l.map fun x => x.Dur
theorem durL_get {l : List Ite} {k : Nat} {x : Ite} (h : l[k]? = some x) : (durL l)[k]? = some x.Dur := by unfold durL; rw [List.getElem?_map, h]; rfl
theorem durL_snoc {l : List Ite} {k : Nat} {x : Ite} (h : l[k]? = some x) : durL (l.take k) ++ [x.Dur] = durL (l.take (k + 1)) := by
  unfold durL; rw [← take_snoc h, List.map_append]; rfl
theorem durL_len (l : List Ite) : (durL l).length = l.length := by unfold durL; simp
theorem firstT_nil : firstT [] = 0 := rfl
theorem sumF_nil (s : Tm) : sumF s [] = (s, 0) := rfl
theorem durL_0 (l : List Ite) : [] = durL (l.take 0) := rfl
theorem sum_bad {L : List Tm} {e : Int} (h : firstT L = e) (h0 : ¬ e = 0) : sumE L = e ∧ sumV L = tmZ := by
  unfold sumE sumV; rw [h, if_neg h0, if_neg h0]; exact ⟨rfl, rfl⟩
theorem sum_is {L : List Tm} {p : Tm × Int} (h : firstT L = 0) (h0 : sumF ⟨0, 1⟩ L = p) : sumE L = p.2 ∧ sumV L = p.1 := by
  unfold sumE sumV; rw [if_pos h, if_pos h, h0]; exact ⟨rfl, rfl⟩
attribute [local irreducible] durL sumE sumV sumF firstT ckT addE addV
set_option maxHeartbeats 4000000 in
theorem C_item_Total (l : List Ite) (hl : l.length ≤ 4000000) : Fn Tryz.prog 36 [itsA l] (.tup [tmA (sumV (durL l)), iv (sumE (durL l))]) := by
  have hr0 := durL_0 l
  have hln := durL_len l
  refine Fn.go Tryz.func36 Tryz.ntmps36 (fun g w d => ?_)
  refine X.seq ?_
  refine X.region ?_
  refine Ex.al ?_
  refine Ex.pu ?_
  refine Ex.nil ?_
  refine X.seq ?_
  refine X.region ?_
  refine Ex.pu ?_
  refine Ex.nil ?_
  refine X.seq ?_
  refine X.seq ?_
  refine X.imp (Imp.mkrow tmE 51 2 4 40 rfl rfl) ?_
  refine X.region ?_
  iterate 3 refine Ex.pu ?_
  refine Ex.nil ?_
  refine X.block ?_
  refine X.lp (ι := Nat) (fun (k : Nat) => [(2, .ptr 2 0 0 0), (4, .own 40), (8, itsA l), (9, iv l.length), (10, iv (k : Int))]) (fun (k : Nat) => [(2, .box [iv 0, iv 0] 51), (40, .row tmE (durL (l.take k)) 51 2)]) (fun (k : Nat) => k ≤ l.length ∧ firstT (durL l) = firstT ((durL l).drop k)) (fun (k : Nat) => l.length - k) 0 (fun k hk => ?_) (hJ := by
    exact ⟨by omega, rfl⟩)
  obtain ⟨hk1, hk2⟩ := hk
  refine X.seq ?_
  refine X.region ?_
  refine Ex.pu ?_
  refine Ex.nil ?_
  refine X.seq ?_
  refine X.cd rfl (fun hc1 => ?_) (fun hc1 => ?_)
  · obtain ⟨x, hx⟩ : ∃ x, l[k]? = some x := ⟨_, List.getElem?_eq_getElem (by omega)⟩
    have hx2 : l[(k : Int).toNat]? = some x := by simpa using hx
    have hd := durL_get hx
    have hstep := firstT_step hd
    have hst := durL_snoc hx
    have hln2 : (durL (l.take k)).length ≤ 4000000 := by rw [durL_len, List.length_take]; omega
    refine X.skip ?_
    refine X.seq ?_
    refine X.block ?_
    refine X.seq ?_
    refine X.region ?_
    iterate 2 refine Ex.pu ?_
    refine Ex.al ?_
    refine Ex.mo ?_
    refine Ex.nil ?_
    refine X.seq ?_
    refine X.seq ?_
    refine X.region ?_
    iterate 2 refine Ex.pu ?_
    refine Ex.ca (C_span_Check x.Dur) ?_
    refine Ex.pu ?_
    refine Ex.nil ?_
    refine X.seq ?_
    refine X.region ?_
    iterate 2 refine Ex.pu ?_
    refine Ex.nil ?_
    refine X.cd rfl (fun hc2 => ?_) (fun hc2 => ?_)
    · have hZ := sum_bad (show firstT (durL l) = ckT x.Dur by rw [hk2, hstep, if_neg hc2]) hc2
      have hE := hZ.1
      have hV := hZ.2
      refine X.seq ?_
      refine X.region ?_
      iterate 2 refine Ex.pu ?_
      refine Ex.mo ?_
      refine Ex.pu ?_
      refine Ex.nil ?_
      refine X.ret ?_
      refine RetQ.ret (.many (by decide) (.cons (.cellA rfl rfl rfl rfl ty51 (LeV.eq ?_)) (.cons (.tmp rfl (LeV.eq ?_)) .nil)))
      all_goals (first | (rw [hE]; done) | (rw [hV]; rfl) | (rw [hE]; rfl) | (rw [hV]; done))
    refine X.skip ?_
    refine X.region ?_
    iterate 3 refine Ex.pu ?_
    refine Ex.bs tmE [x.Dur] ?_
    refine Ex.mo ?_
    refine Ex.pu ?_
    refine Ex.nil ?_
    refine X.region ?_
    iterate 2 refine Ex.pu ?_
    refine Ex.nil ?_
    refine X.bk (k + 1) (hJ := by
      exact ⟨by omega, by rw [hk2, hstep, if_pos hc2]⟩)
  · have hkl : k = l.length := by omega
    subst hkl
    have hS : Fn Tryz.prog 92 [tmsA (durL (l.take l.length))] (.tup [tmA (sumV (durL l)), iv (sumE (durL l))]) := by rw [List.take_length]; exact C_span_Sum (durL l) (by omega)
    refine X.exit ?_
    refine X.seq ?_
    refine X.region ?_
    refine Ex.pu ?_
    refine Ex.imp (Imp.freeze (k := 40) rfl) ?_
    refine Ex.ca hS ?_
    iterate 2 refine Ex.pu ?_
    refine Ex.mo ?_
    refine Ex.pu ?_
    refine Ex.nil ?_
    refine X.ret ?_
    refine RetQ.ret (.many (by decide) (.cons (.cellA rfl rfl rfl rfl ty51 (LeV.eq ?_)) (.cons (.tmp rfl (LeV.eq ?_)) .nil)))
    all_goals (rfl)
theorem C_tactuskit_OwnItems (l : List Ite) (hl : l.length ≤ 4000) : Fn Tryz.prog 39 [itsA l] (itsA l) := by
  refine Fn.go Tryz.func39 Tryz.ntmps39 (fun g w d => ?_)
  refine X.seq ?_
  refine X.region ?_
  refine Ex.pu ?_
  refine Ex.nil ?_
  refine X.seq ?_
  refine X.region ?_
  refine Ex.bs itE [] ?_
  refine Ex.pu ?_
  refine Ex.mo ?_
  refine Ex.pu ?_
  refine Ex.nil ?_
  refine X.ret ?_
  refine RetQ.imp (Imp.freeze (k := 3) rfl) ?_
  refine RetQ.ret (.one (.tmp rfl (LeV.eq ?_)))
  all_goals (first | rfl | (simp; rfl))
end Go.Rse
