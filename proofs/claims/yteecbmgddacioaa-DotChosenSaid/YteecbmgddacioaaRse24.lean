/-
  Drawn regions, order by order: a state for each set of operations that may have come.
-/
import Derived.Test.YteecbmgddacioaaRse19
namespace Go.Rse
open Go Go.RowKit
set_option linter.unusedVariables false
set_option linter.unusedSimpArgs false
section
variable {P : Program} {C : Ctx} {st st' : St} {ty : TypeId}
theorem StepA.toM {dst : Option Tmp} {op : Op} {x : AV} {nb : Option (Nat × Blk)} (hs : StepA P C op ty st x nb) (hd : dOk C.n dst = true) (hn : nbOk st nb = true) : StepM P C op ty dst st (Rse.addSt st dst x nb) := fun g a w pos af gd hr K hK =>
  hs g a w dst pos af gd hr K fun v w' g' h2 h3 h4 h5 => hK _ _ g' (hr.addSt h2 hd hn h3 h4.1 h4.2 h5)
theorem StepM.imp {dst : Option Tmp} {op : Op} {st1 : St} (hs : StepM P C op ty dst st st1) (hi : Imp C st1 st') : StepM P C op ty dst st st' := fun g a w pos af gd hr K hK =>
  hs g a w pos af gd hr K fun a' w' g' h' => let ⟨g2, h2⟩ := hi g' a' w' h'; hK a' w' g2 h2
def Step1 (P : Program) (C : Ctx) (ops : Array Oper) (i : Nat) (st st' : St) : Prop := ∃ o, ops[i]? = some o ∧ o.guard = none ∧ StepM P C o.op o.type o.dst st st'
theorem Step1.mk {ops : Array Oper} {i : Nat} {dst : Option Tmp} {op : Op} {pos : String} {af : Array Edge} (ho : ops[i]? = some { dst := dst, op := op, type := ty, pos := pos, after := af, guard := none }) (hs : StepM P C op ty dst st st') : Step1 P C ops i st st' := ⟨_, ho, rfl, hs⟩
def HAll (P : Program) (C : Ctx) (ops : Array Oper) (sts : List St) : List (Nat × Nat × Nat) → Prop
  | [] => True
  | (p, i, q) :: r => (∃ s s', sts[p]? = some s ∧ sts[q]? = some s' ∧ Step1 P C ops i s s') ∧ HAll P C ops sts r
theorem HAll.get {ops : Array Oper} {sts : List St} : ∀ {es : List (Nat × Nat × Nat)}, HAll P C ops sts es → ∀ {p i q : Nat}, (p, i, q) ∈ es → ∃ s s', sts[p]? = some s ∧ sts[q]? = some s' ∧ Step1 P C ops i s s'
  | (p', i', q') :: r, h, p, i, q, hm => by
    rcases List.mem_cons.1 hm with e | hm
    · injection e with e1 e2; injection e2 with e2 e3; subst e1; subst e2; subst e3; exact h.1
    · exact HAll.get h.2 hm
/-- Every set of operations that may have come has its entry, every next operation its edge. -/
def cover (ops : Array Oper) (ds : List (List Bool)) (es : List (Nat × Nat × Nat)) : Bool :=
  (List.range ds.length).all fun p => match ds[p]? with
    | none => false
    | some l => (l.length == ops.size) && (l.all id || (!(Region.ready .any ops l.toArray).isEmpty && (Region.ready .any ops l.toArray).all fun i => es.any fun e => e.1 == p && (e.2.1 == i && ds[e.2.2]? == some (l.set i true))))
def nFalse (l : List Bool) : Nat := (l.filter fun b => !b).length
theorem nFalse_set : ∀ {l : List Bool} {i : Nat}, l[i]? = some false → nFalse l = nFalse (l.set i true) + 1
  | b :: l, 0, h => by simp at h; subst h; simp [nFalse]
  | b :: l, i + 1, h => by
    have := nFalse_set (l := l) (i := i) (by simpa using h)
    unfold nFalse at *
    cases b <;> simp [List.filter_cons] at * <;> omega
theorem nFalse_zero : ∀ {l : List Bool}, nFalse l = 0 → l.all id = true
  | [], _ => rfl
  | b :: l, h => by
    unfold nFalse at h
    cases b
    · simp [List.filter_cons] at h
    · simp only [List.filter_cons, Bool.not_true, Bool.false_eq_true, if_false] at h
      simpa using nFalse_zero (l := l) h
theorem drawN {ops : Array Oper} {Q : Exit → St → Prop} {sts : List St} {ds : List (List Bool)} {es : List (Nat × Nat × Nat)} (hc : cover ops ds es = true) (hs : HAll P C ops sts es) (hlen : ds.length = sts.length) (hend : ∀ (p : Nat) l s, ds[p]? = some l → l.all id = true → sts[p]? = some s → Q .normal s) :
    ∀ (n p : Nat) (l : List Bool) (s : St) (g : Gh) (a : Act) (w : World), ds[p]? = some l → sts[p]? = some s → nFalse l = n → Rel C s g a w → wpAnyIn C.F 0 P .any ops (lift C Q) n l.toArray a w := by
  have hcov : ∀ p l, ds[p]? = some l → l.length = ops.size ∧ (l.all id = true ∨ (Region.ready .any ops l.toArray ≠ [] ∧ ∀ i ∈ Region.ready .any ops l.toArray, ∃ q, (p, i, q) ∈ es ∧ ds[q]? = some (l.set i true))) := fun p l hp => by
    have h1 := List.all_eq_true.1 hc p (by simpa using (List.getElem?_eq_some_iff.1 hp).1)
    rw [hp] at h1
    simp only [Bool.and_eq_true, beq_iff_eq, Bool.or_eq_true, Bool.not_eq_true'] at h1
    refine ⟨h1.1, ?_⟩
    rcases h1.2 with h | ⟨h2, h3⟩
    · exact .inl h
    · refine .inr ⟨fun e => by rw [e] at h2; simp at h2, fun i hi => ?_⟩
      have h4 := List.all_eq_true.1 h3 i hi
      obtain ⟨⟨p', i', q⟩, hm, h5⟩ := List.any_eq_true.1 h4
      simp only [Bool.and_eq_true, beq_iff_eq] at h5
      obtain ⟨e1, e2, e3⟩ := h5
      subst e1; subst e2
      exact ⟨q, hm, e3⟩
  intro n
  induction n with
  | zero =>
    intro p l s g a w hp hsp hn hr
    have hall := nFalse_zero hn
    refine ⟨List.eq_nil_iff_forall_not_mem.2 fun i hi => ?_, s, g, hr, hend p l s hp hall hsp⟩
    obtain ⟨h1, h2, _⟩ := ready_iff.1 hi
    have hlt : i < l.length := by rw [(hcov p l hp).1]; exact h1
    have h3 := List.all_eq_true.1 hall _ (List.getElem_mem hlt)
    simp [Array.getD_eq_getD_getElem?, hlt] at h2 h3
    rw [h3] at h2; cases h2
  | succ n ih =>
    intro p l s g a w hp hsp hn hr
    obtain ⟨hl, hor⟩ := hcov p l hp
    have hnot : ¬ l.all id = true := fun h => by
      have : nFalse l = 0 := by
        unfold nFalse
        rw [List.filter_eq_nil_iff.2 (fun b hb => by have := List.all_eq_true.1 h b hb; simpa using this)]; rfl
      omega
    rcases hor with h | ⟨hne, hrd⟩
    · exact absurd h hnot
    · refine ⟨fun e => absurd e hne, fun i hi => ?_⟩
      obtain ⟨q, hm, hq⟩ := hrd i hi
      obtain ⟨s1, s2, h1, h2, o, ho, hg, hst⟩ := hs.get hm
      rw [hsp] at h1; injection h1 with h1; subst h1
      obtain ⟨r1, r2, _⟩ := ready_iff.1 hi
      have hlt : i < l.length := by rw [hl]; exact r1
      have hif : l[i]? = some false := by
        simp [Array.getD_eq_getD_getElem?, hlt] at r2
        rw [List.getElem?_eq_getElem hlt, r2]
      simp only [wpOpIn, ho]
      obtain ⟨dst, op, ty, pos, af, gd⟩ := o
      simp only at hg; subst hg
      have hw : Region.wanted { dst := dst, op := op, type := ty, pos := pos, after := af, guard := none } (yielded ops a.tmps) = true := rfl
      rw [if_pos hw]
      refine wp1_in (hst g a w pos af none hr _ fun a' w' g' h' => ?_)
      have e : l.toArray.setIfInBounds i true = (l.set i true).toArray := by simp
      rw [e]
      exact ih q (l.set i true) s2 g' a' w' hq h2 (by have := nFalse_set hif; omega) h'
/-- A drawn region, order by order. -/
theorem X.drawN {rid : Nat} {l : List Oper} {Q : Exit → St → Prop} (sts : List St) (ds : List (List Bool)) (es : List (Nat × Nat × Nat)) (hm : P.follows .mixedOrders = true) {s0 : St} (h0 : ds[0]? = some (List.replicate l.length false)) (hs0 : sts[0]? = some s0) (hi : Imp C st s0) (hc : cover l.toArray ds es = true) (hlen : ds.length = sts.length)
    (hs : HAll P C l.toArray sts es) (hend : ∀ (p : Nat) d s, ds[p]? = some d → d.all id = true → sts[p]? = some s → Q .normal s) : X P C (.region rid l.toArray true) st Q := fun g a w hr => by
  refine wpIn_region_any hm ?_
  obtain ⟨g1, hr1⟩ := hi g a w hr
  have hr' : Rel C s0 g1 a w.drew := hr1.add (nk := none) (d := none) (x := .any) (v := .nilIface) ⟨Im.le_refl _, fun _ _ => rfl, fun _ _ => rfl, Grow.drew w⟩ (fun k h => by simp at h) (fun t h => by simp at h) (.any _) hr1.sat.im hr1.sat.ob
  have h := Rse.drawN hc hs hlen hend (nFalse (List.replicate l.length false)) 0 _ s0 g1 a w.drew h0 hs0 rfl hr'
  have e1 : nFalse (List.replicate l.length false) = l.toArray.size := by simp [nFalse]
  have e2 : (List.replicate l.length false).toArray = Array.replicate l.toArray.size false := by simp
  rw [e1, e2] at h
  exact h
end
end Go.Rse
