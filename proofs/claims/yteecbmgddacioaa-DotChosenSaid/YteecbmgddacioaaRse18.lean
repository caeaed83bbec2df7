/-
  Ends; tests against nil; rows cut; lists cut.
-/
import Derived.Test.YteecbmgddacioaaRse17
import Derived.Laws.Cover3
namespace Go.Rse
open Go Go.RowKit
set_option linter.unusedVariables false

theorem RetQO.mk {P : Program} {C : Ctx} {rv : List ResultVar} {r : AV} {vs : List Value} {cs : List AV} {hs' : List (Nat × Blk)} {e : Exit} {st : St} {ts : List (Nat × AV)} (he : e = .normal ∨ e = .ret) (hi : Imp C st ⟨ts, (kN, .hold vs cs) :: hs'⟩) (hr : RetVs P ⟨ts, (kN, .hold vs cs) :: hs'⟩ rv r) : RetQO P C rv r vs cs hs' e st :=
  ⟨he, ts, hi, hr⟩

theorem RetQO.imp {P : Program} {C : Ctx} {rv : List ResultVar} {r : AV} {vs : List Value} {cs : List AV} {hs' : List (Nat × Blk)} {e : Exit} {st st' : St} (hi : Imp C st st') (h : RetQO P C rv r vs cs hs' e st') : RetQO P C rv r vs cs hs' e st :=
  ⟨h.1, let ⟨ts, h1, h2⟩ := h.2; ⟨ts, hi.trans h1, h2⟩⟩

section
variable {P : Program} {C : Ctx} {st : St} {ty : TypeId}

/-- An operation that yields a bool of which φ holds. -/
theorem Ex.purB {ops : Array Oper} {Q : Exit → St → Prop} {rest : List Oper} {d : Nat} {op : Op} {pos : String} {af : Array Edge} (φ : Bool → Prop)
    (hs : ∀ (g : Gh) (a : Act) (w : World) dst pos af gd, Rel C st g a w → ∃ b, (execOp a.eval { dst := dst, op := op, type := ty, pos := pos, after := af, guard := gd }).run P w = .ok (.value (.bool b)) w ∧ φ b) (hd : d.blt C.n = true)
    (h : ∀ b, φ b → Ex P C ops rest ⟨(d, .bool b) :: st.t, st.h⟩ Q) :
    Ex P C ops ({ dst := some d, op := op, type := ty, pos := pos, after := af, guard := none } :: rest) st Q := fun g a w hr =>
  wpListIn_plain rfl fun K hK => wp1_in <| by
    obtain ⟨b, h1, h2⟩ := hs g a w (some d) pos af none hr
    unfold wp1
    rw [h1]
    refine hK _ _ (h b h2 g _ w ?_)
    exact hr.addSt (d := some d) (nb := none) (Add.refl _ g w) (by simpa [dOk] using hd) rfl (.bool b) hr.sat.im hr.sat.ob (fun _ _ h => by cases h)

/-- x == nil where x is a slice: not known at an empty one. -/
theorem Ex.eqNil {α : Type} {enc : α → List AV} {l : List α} {ops : Array Oper} {Q : Exit → St → Prop} {rest : List Oper} {d : Nat} {t E : TypeId} {x : Operand} {yt : TypeId} {pos : String} {af : Array Edge} (hx : ev st x = some (.sl enc l)) (ht : slOk P t E = true) (hd : d.blt C.n = true)
    (h : ∀ b, (b = true → l = []) → Ex P C ops rest ⟨(d, .bool b) :: st.t, st.h⟩ Q) :
    Ex P C ops ({ dst := some d, op := .binOp .eql t x (.const (.slice none 0 0)) yt, type := ty, pos := pos, after := af, guard := none } :: rest) st Q :=
  Ex.purB (fun b => b = true → l = []) (fun g a w dst pos af gd hr => by
    obtain ⟨A, b, o, s', c, vs, e, hA, _⟩ := inv_sl (ev_rv hr hx)
    have e0 : a.eval (.const (.slice none 0 0)) = .slice none 0 0 := rfl
    have he : ∀ A : Option Addr, (Op.equal t (.slice A l.length c) (.slice none 0 0)).run P w = .ok A.isNone w := fun A => run_equalIn_slice_nil w 9999 t E A l.length c (slOk_under ht)
    refine ⟨A.isNone, ?_, fun hn => ?_⟩
    · simp [execOp, e, e0, eqGuard, binOp, he]
    · cases A with
      | none =>
        cases l with
        | nil => rfl
        | cons x r => have := hA (by simp); simp at this
      | some A => simp at hn) hd h

/-- The call of a function that is handed blocks, its conditions to be reckoned. -/
theorem Ex.callO' {ops : Array Oper} {Q : Exit → St → Prop} {rest : List Oper} {dst : Option Tmp} {pos : String} {af : Array Edge} {fop : Operand} {args : Array Operand} {ts : Array TypeId} {f : FuncId} {caps xs as : List AV} {hs hs' : List (Nat × Blk)} {kp : List Nat} {r : AV}
    (μ : List (Nat × Nat)) (h : FnO P f as hs kp r hs') (hf : ev st fop = some (.fn f caps)) (hx : evs st args.toList = some xs) (hμ : biOk μ = true) (hle : LeL (xs ++ caps) (as.map (AV.ren μ))) (has : as.all (AV.okN (keys hs)) = true) (hrn : r.okN (keys hs') = true)
    (hin : callIns st μ (keys hs) hs) (hout : (hs'.all fun p => (fwd μ p.1).isSome && p.2.okNB (keys hs')) = true)
    (hnew : (μ.all fun p => kp.any (·.beq p.1) || (hs.any (·.1.beq p.1) && !(hs'.any (·.1.beq p.1))) || (!(hs.any (·.1.beq p.1)) && st.fr p.2)) = true)
    (hkp : (kp.all fun n => hs.any (·.1.beq n)) = true) (hd : dOk C.n dst = true) (hq : Ex P C ops rest (callSt st μ hs hs' dst r) Q) :
    Ex P C ops ({ dst := dst, op := .call { callee := .value fop, args := args, argTypes := ts }, type := ty, pos := pos, after := af, guard := none } :: rest) st Q := by
  refine Ex.callO μ h hf hx hμ hle has hrn hin (fun p hp => ?_) (fun p hp => ?_) (fun n hn => List.all_eq_true.1 hkp n hn) hd hq
  · have := List.all_eq_true.1 hout p hp
    simpa using this
  · have := List.all_eq_true.1 hnew p hp
    simp only [Bool.or_eq_true, Bool.and_eq_true, Bool.not_eq_true'] at this
    rcases this with (h1 | h1) | h1
    · exact .inl h1
    · exact .inr (.inl h1)
    · exact .inr (.inr h1)
end
end Go.Rse
