/-
  Structs held against each other, by type.
-/
import Derived.Test.YteecbmgddacioaaGreatEnc
namespace Go.Rse
open Go Go.RowKit
set_option linter.unusedVariables false
section
variable {P : Program} {C : Ctx} {st : St} {ty : TypeId}
theorem P_eql_st' {t : TypeId} {x y : Operand} {yt : TypeId} {xs ys : List AV} {b : Bool} {L : List Nat} {d n : Nat} (h : (eqOk P d t && decide (d ≤ 10000)) = true) (hL : flat P d t = L) (hm : P.eqGuardType P.depth t = false) (ht : tyOk P t true n = true) (hx : ev st x = some (.agg xs)) (hy : ev st y = some (.agg ys)) (hn : xs.length = n) (kx : xs.map kAV = L) (ky : ys.map kAV = L) (he : eqL xs ys = some b) :
    Pur P C (.binOp .eql t x y yt) ty st (.bool b) := P_eql_st h hL hm (hn ▸ ht) hx hy kx ky he
theorem P_neq_st' {t : TypeId} {x y : Operand} {yt : TypeId} {xs ys : List AV} {b : Bool} {L : List Nat} {d n : Nat} (h : (eqOk P d t && decide (d ≤ 10000)) = true) (hL : flat P d t = L) (hm : P.eqGuardType P.depth t = false) (ht : tyOk P t true n = true) (hx : ev st x = some (.agg xs)) (hy : ev st y = some (.agg ys)) (hn : xs.length = n) (kx : xs.map kAV = L) (ky : ys.map kAV = L) (he : eqL xs ys = some b) :
    Pur P C (.binOp .neq t x y yt) ty st (.bool (!b)) := P_neq_st h hL hm (hn ▸ ht) hx hy kx ky he
end
theorem eqL_cons {x y : AV} {xs ys : List AV} {p q : Bool} (h : eqAV x y = some p) (h' : eqL xs ys = some q) : eqL (x :: xs) (y :: ys) = some (p && q) := by simp only [eqL, h, h']
theorem eqL_mnE (a b : Mn) : eqL (mnE a) (mnE b) = some (decide (a = b)) := by
  cases a; cases b
  refine (eqL_cons rfl (eqL_cons rfl (eqL_cons rfl (eqL_cons rfl rfl)))).trans ?_
  simp [Bool.decide_and]
theorem eqL_tmE (a b : Tm) : eqL (tmE a) (tmE b) = some (decide (a = b)) := by
  cases a; cases b
  refine (eqL_cons rfl (eqL_cons rfl rfl)).trans ?_
  simp [Bool.decide_and]
theorem eqL_sgE (a b : Sg) : eqL (sgE a) (sgE b) = some (decide (a = b)) := by
  obtain ⟨a1, a2, a3, a4, a5, a6, a7, a8, ⟨a9, a10, a11, a12⟩, a13, a14, a15, a16, a17⟩ := a
  obtain ⟨b1, b2, b3, b4, b5, b6, b7, b8, ⟨b9, b10, b11, b12⟩, b13, b14, b15, b16, b17⟩ := b
  refine (eqL_cons rfl (eqL_cons rfl (eqL_cons rfl (eqL_cons rfl (eqL_cons rfl (eqL_cons rfl (eqL_cons rfl (eqL_cons rfl (eqL_cons rfl (eqL_cons rfl (eqL_cons rfl (eqL_cons rfl (eqL_cons rfl (eqL_cons rfl (eqL_cons rfl (eqL_cons rfl (eqL_cons rfl rfl))))))))))))))))).trans ?_
  simp only [Sg.mk.injEq, Mn.mk.injEq, Bool.decide_and, Bool.and_assoc, Bool.and_true, Bool.beq_eq_decide_eq]
end Go.Rse
