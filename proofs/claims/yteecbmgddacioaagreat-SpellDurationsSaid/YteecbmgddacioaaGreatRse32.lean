/-
  Shifts and bits of small ints.
-/
import Derived.Test.YteecbmgddacioaaGreatRse31
namespace Go.Rse
open Go Go.RowKit
set_option linter.unusedVariables false
set_option linter.unusedSimpArgs false
def andI (p q : Int) : Int := IntKind.i64.wrap ((BitVec.ofInt 64 p &&& BitVec.ofInt 64 q).toNat : Int)
section
variable {P : Program} {C : Ctx} {st : St} {ty : TypeId} {x y : Operand} {xt yt : TypeId} {k k' : IntKind} {p q : Int}
theorem run_int3 {op : BinOp} {g : Gh} {a : Act} {w : World} (hr : Rel C st g a w) (hx : ev st x = some (.int k p)) (hy : ev st y = some (.int k' q)) (dst : Option Tmp) (pos : String) (af : Array Edge) (gd : Option (Nat × Bool)) (r : Value)
    (h : (binOp op xt (.int k p) (.int k' q)).run P w = .ok r w) : (execOp a.eval { dst := dst, op := .binOp op xt x y yt, type := ty, pos := pos, after := af, guard := gd }).run P w = .ok (.value r) w := by
  have ex := inv_int (ev_rv hr hx)
  have ey := inv_int (ev_rv hr hy)
  have hg : (eqGuard op xt x y (.int k p) (.int k' q)).run P w = .ok () w := by
    unfold eqGuard; cases op <;> simp
  simp only [execOp, ex, ey, Sem.run_bind, hg, Result.andThen_ok, h, Sem.run_pure]
theorem P_shl (hx : ev st x = some (.int .i64 p)) (hy : ev st y = some (.int k' q)) (h0 : 0 ≤ q) (h1 : q ≤ 63) (hin : IntKind.i64.wrap (p * 2 ^ q.toNat) = p * 2 ^ q.toNat) : Pur P C (.binOp .shl xt x y yt) ty st (.int .i64 (p * 2 ^ q.toNat)) := fun g a w dst pos af gd hr =>
  ⟨_, run_int3 hr hx hy dst pos af gd (.int .i64 (p * 2 ^ q.toNat)) (by
    have e : min q.toNat IntKind.i64.bits = q.toNat := by show min q.toNat 64 = q.toNat; omega
    simp [binOp, Op.shift, show ¬ q < 0 by omega, e, hin]), .int _ _⟩
theorem P_shr1 (hx : ev st x = some (.int .i64 p)) (hy : ev st y = some (.int k' 1)) : Pur P C (.binOp .shr xt x y yt) ty st (.int .i64 (p / 2)) := fun g a w dst pos af gd hr =>
  ⟨_, run_int3 hr hx hy dst pos af gd (.int .i64 (p / 2)) (by
    have e : min (1 : Int).toNat IntKind.i64.bits = 1 := rfl
    have e2 : p.fdiv (2 ^ 1) = p / 2 := Int.fdiv_eq_ediv_of_nonneg p (by decide)
    simp only [binOp, Op.shift, e, e2]; rfl), .int _ _⟩
theorem P_andI (hx : ev st x = some (.int .i64 p)) (hy : ev st y = some (.int .i64 q)) : Pur P C (.binOp .and xt x y yt) ty st (.int .i64 (andI p q)) := fun g a w dst pos af gd hr =>
  ⟨_, run_int3 hr hx hy dst pos af gd (.int .i64 (andI p q)) (by simp [binOp, Op.intBits]; rfl), .int _ _⟩
end
theorem andI_tab : ∀ p : Fin 64, ∀ k : Fin 6, (decide (andI (p.val : Int) (2 ^ k.val) = 0) : Bool) = decide ((p.val : Int) / 2 ^ k.val % 2 = 0) := by decide +kernel
theorem andI_zero {p : Int} {k : Nat} (h0 : 0 ≤ p) (h1 : p < 64) (hk : k < 6) : andI p (2 ^ k) = 0 ↔ p / 2 ^ k % 2 = 0 := by
  have h := andI_tab ⟨p.toNat, by omega⟩ ⟨k, hk⟩
  have e : ((p.toNat : Nat) : Int) = p := by omega
  simp only [e] at h
  exact decide_eq_decide.1 h
end Go.Rse
