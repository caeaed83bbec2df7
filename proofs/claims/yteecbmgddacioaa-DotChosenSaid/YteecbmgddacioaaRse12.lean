/-
  Guarded operations: the guard is known, or a whole block stands behind one guard.
-/
import Derived.Test.YteecbmgddacioaaRse11
namespace Go.Rse
open Go Go.RowKit
set_option linter.unusedVariables false

theorem yielded_of {C : Ctx} {st : St} {g : Gh} {a : Act} {w : World} {ops : Array Oper} {i t : Nat} {b : Bool} (hr : Rel C st g a w) (hi : (ops[i]?).bind (·.dst) = some t) (hb : lk st.t t = some (.bool b)) : yielded ops a.tmps i = some b := by
  have := inv_bool (hr.tmps t _ hb)
  have e : a.tmps[t]? = some (.bool b) := by
    simp only [Array.getD_eq_getD_getElem?] at this
    cases h : a.tmps[t]? with
    | none => rw [h] at this; simp [undef] at this
    | some u => rw [h] at this; simpa using this
  simp [yielded, hi, e]

section
variable {P : Program} {C : Ctx} {ops : Array Oper} {st : St} {Q : Exit → St → Prop} {rest : List Oper} {d : Nat} {op : Op} {ty : TypeId} {pos : String} {af : Array Edge} {x : AV} {i t : Nat} {want b : Bool}

/-- The guard says yes. -/
theorem Ex.gT {nb : Option (Nat × Blk)} (hi : (ops[i]?).bind (·.dst) = some t) (hb : lk st.t t = some (.bool b)) (hw : (b == want) = true) (hs : StepA P C op ty st x nb) (hd : d.blt C.n = true) (hn : nbOk st nb = true) (h : Ex P C ops rest (addSt st (some d) x nb) Q) :
    Ex P C ops ({ dst := some d, op := op, type := ty, pos := pos, after := af, guard := some (i, want) } :: rest) st Q := fun g a w hr => by
  have hy := yielded_of hr hi hb
  unfold wpListIn
  rw [if_pos (by simp only [Region.wanted, hy]; simpa using hw)]
  exact wp1_in (hs g a w (some d) pos af (some (i, want)) hr _ fun v w' g' h2 h3 h4 h5 => h g' _ w' (hr.addSt h2 hd hn h3 h4.1 h4.2 h5))
/-- The guard says no. -/
theorem Ex.gF (hi : (ops[i]?).bind (·.dst) = some t) (hb : lk st.t t = some (.bool b)) (hw : (b == want) = false) (hd : d.blt C.n = true) (h : Ex P C ops rest { t := (d, .tup []) :: st.t, h := st.h } Q) :
    Ex P C ops ({ dst := some d, op := op, type := ty, pos := pos, after := af, guard := some (i, want) } :: rest) st Q := fun g a w hr => by
  have hy := yielded_of hr hi hb
  unfold wpListIn
  rw [if_neg (by simp only [Region.wanted, hy]; simpa using hw)]
  exact ⟨fun f _ => C.F_fn f, h g _ w (hr.addSt (d := some d) (nb := none) (Add.refl _ g w) hd rfl (.tup [] [] rfl (fun j c v hc => by simp at hc)) hr.sat.im hr.sat.ob (fun _ _ h => by cases h))⟩
/-- The guard itself was passed over. -/
theorem Ex.gN (hi : (ops[i]?).bind (·.dst) = some t) (hb : lk st.t t = some (.tup [])) (hd : d.blt C.n = true) (h : Ex P C ops rest { t := (d, .tup []) :: st.t, h := st.h } Q) :
    Ex P C ops ({ dst := some d, op := op, type := ty, pos := pos, after := af, guard := some (i, want) } :: rest) st Q := fun g a w hr => by
  have hy : yielded ops a.tmps i = none := by
    obtain ⟨vs, e, hl, _⟩ := inv_tup (hr.tmps t _ hb)
    have e2 : vs = [] := List.eq_nil_of_length_eq_zero (by simpa using hl)
    subst e2
    have : a.tmps[t]? = some (.tuple #[]) ∨ a.tmps[t]? = none := by
      simp only [Array.getD_eq_getD_getElem?] at e
      cases h : a.tmps[t]? with
      | none => exact .inr rfl
      | some u => rw [h] at e; exact .inl (by rw [show u = .tuple #[] from e])
    rcases this with h | h <;> simp [yielded, hi, h]
  unfold wpListIn
  rw [if_neg (by simp only [Region.wanted, hy]; simp)]
  exact ⟨fun f _ => C.F_fn f, h g _ w (hr.addSt (d := some d) (nb := none) (Add.refl _ g w) hd rfl (.tup [] [] rfl (fun j c v hc => by simp at hc)) hr.sat.im hr.sat.ob (fun _ _ h => by cases h))⟩
/-- The guard is told apart. -/
theorem Ex.gcase {l : List Oper} (want : Bool) (_hb : lk st.t t = some (.bool b)) (h1 : (b == want) = true → Ex P C ops l st Q) (h2 : (b == want) = false → Ex P C ops l st Q) : Ex P C ops l st Q := by
  cases h : (b == want) with
  | true => exact h1 h
  | false => exact h2 h

def anyT : List (Nat × AV) → List (Nat × AV)
  | [] => []
  | (d, _) :: r => (d, .tup []) :: anyT r
def wrapT (c : Bool) : List (Nat × AV) → List (Nat × AV)
  | [] => []
  | (d, x) :: r => (d, .ifb c x) :: wrapT c r
def keyFree (t : Nat) : List (Nat × AV) → Bool
  | [] => true
  | (d, _) :: r => !(d.beq t) && keyFree t r
def app : List (Nat × AV) → List (Nat × AV) → List (Nat × AV)
  | [], l => l
  | e :: r, l => e :: app r l
theorem lk_app_free {t : Nat} {l : List (Nat × AV)} : ∀ {es : List (Nat × AV)}, keyFree t es = true → lk (app es l) t = lk l t
  | [], _ => rfl
  | (d, x) :: r, h => by
    simp only [keyFree, Bool.and_eq_true, Bool.not_eq_true'] at h
    simp [app, lk_cons, h.1, lk_app_free h.2]
theorem keyFree_any {t : Nat} : ∀ {es : List (Nat × AV)}, keyFree t es = true → keyFree t (anyT es) = true
  | [], _ => rfl
  | (d, x) :: r, h => by
    simp only [keyFree, Bool.and_eq_true] at h
    simp [anyT, keyFree, h.1, keyFree_any h.2]

/-- Inside a block of operations behind one guard: es is what those so far have found, if the guard says yes. -/
def ExG (P : Program) (C : Ctx) (ops : Array Oper) (want b : Bool) (l : List Oper) (st : St) (es : List (Nat × AV)) (Q : Exit → St → Prop) : Prop :=
  ((b == want) = true → ∀ g a w, Rel C ⟨app es st.t, st.h⟩ g a w → wpListIn C.F 0 P ops (lift C Q) l a w) ∧ ((b == want) = false → ∀ g a w, Rel C ⟨app (anyT es) st.t, st.h⟩ g a w → wpListIn C.F 0 P ops (lift C Q) l a w)

theorem Ex.gstart {l : List Oper} (want : Bool) (_hb : lk st.t t = some (.bool b)) (h : ExG P C ops want b l st [] Q) : Ex P C ops l st Q := fun g a w hr => by
  cases hb : (b == want) with
  | true => exact h.1 hb g a w hr
  | false => exact h.2 hb g a w hr
theorem ExG.step {es : List (Nat × AV)} (hi : (ops[i]?).bind (·.dst) = some t) (hb : lk st.t t = some (.bool b)) (hk : keyFree t es = true) (hs : (b == want) = true → StepA P C op ty ⟨app es st.t, st.h⟩ x none) (hd : d.blt C.n = true) (h : ExG P C ops want b rest st ((d, x) :: es) Q) :
    ExG P C ops want b ({ dst := some d, op := op, type := ty, pos := pos, after := af, guard := some (i, want) } :: rest) st es Q := by
  refine ⟨fun hw g a w hr => ?_, fun hw g a w hr => ?_⟩
  · exact Ex.gT (st := ⟨app es st.t, st.h⟩) hi (by rw [lk_app_free hk]; exact hb) hw (hs hw) hd rfl (fun g a w hr => h.1 hw g a w hr) g a w hr
  · exact Ex.gF (st := ⟨app (anyT es) st.t, st.h⟩) hi (by rw [lk_app_free (keyFree_any hk)]; exact hb) hw hd (fun g a w hr => h.2 hw g a w hr) g a w hr
theorem ExG.done {l : List Oper} {es : List (Nat × AV)} (h : Ex P C ops l ⟨app (wrapT (b == want) es) st.t, st.h⟩ Q) : ExG P C ops want b l st es Q := by
  have key : ∀ {c : Bool} (f : List (Nat × AV) → List (Nat × AV)), (∀ es : List (Nat × AV), ∀ (I : Im) (ρ : Nat → Value) (t : Nat) (y : AV), lk (app (wrapT c es) st.t) t = some y → ∃ z, lk (app (f es) st.t) t = some z ∧ ∀ v, RV I ρ z v → RV I ρ y v) →
      ∀ g a w, Rel C ⟨app (f es) st.t, st.h⟩ g a w → Rel C ⟨app (wrapT c es) st.t, st.h⟩ g a w := fun f hf g a w hr =>
    ⟨hr.size, hr.defers, fun t y hy => by obtain ⟨z, h1, h2⟩ := hf es g.I g.ρ t y hy; exact h2 _ (hr.tmps t z h1), hr.sat, hr.ext⟩
  refine ⟨fun hw g a w hr => h g a w (key (c := (b == want)) id (fun es I ρ t y => ?_) g a w hr), fun hw g a w hr => h g a w (key (c := (b == want)) anyT (fun es I ρ t y => ?_) g a w hr)⟩
  · induction es with
    | nil => exact fun h => ⟨y, h, fun v h => h⟩
    | cons e r ih =>
      obtain ⟨d', x'⟩ := e
      simp only [wrapT, app, lk_cons, id]
      cases d'.beq t with
      | true => intro h; simp at h; subst h; exact ⟨x', rfl, fun v hv => .ifb _ _ _ fun _ => hv⟩
      | false => intro h; exact ih h
  · induction es with
    | nil => exact fun h => ⟨y, h, fun v h => h⟩
    | cons e r ih =>
      obtain ⟨d', x'⟩ := e
      simp only [wrapT, anyT, app, lk_cons]
      cases d'.beq t with
      | true => intro h; simp at h; subst h; exact ⟨.tup [], rfl, fun v _ => .ifb _ _ _ fun h => by rw [hw] at h; simp at h⟩
      | false => intro h; exact ih h

theorem P_pick_true {c y z : Operand} {u : AV} (hc : ev st c = some (.bool b)) (hb : b = true) (hx : ev st y = some u) : Pur P C (.pick c y z) ty st u := fun g a w dst pos af gd hr => by
  have ec := inv_bool (ev_rv hr hc)
  subst hb
  exact ⟨a.eval y, by simp [execOp, ec, asBool], ev_rv hr hx⟩
theorem P_pick_false {c y z : Operand} {u : AV} (hc : ev st c = some (.bool b)) (hb : b = false) (hx : ev st z = some u) : Pur P C (.pick c y z) ty st u := fun g a w dst pos af gd hr => by
  have ec := inv_bool (ev_rv hr hc)
  subst hb
  exact ⟨a.eval z, by simp [execOp, ec, asBool], ev_rv hr hx⟩
end

theorem ltB {a b : Nat} (h : a.blt b = true) : a < b := by simpa using h
theorem leB {a b : Nat} (h : a.ble b = true) : a ≤ b := by simpa using h
end Go.Rse
