/-
  Arrays by value: built of parts, looked into; structs held against each other; tests split.
-/
import Derived.Test.YteecbmgddacioaaRse9
namespace Go.Rse
open Go Go.RowKit
set_option linter.unusedVariables false

def arrOk (P : Program) (t n E : Nat) : Bool := match P.underlying t with | some (.array m e) => m == n && e == E | _ => false
theorem arrOk_under {P : Program} {t n E : Nat} (h : arrOk P t n E = true) : P.underlying t = some (.array n E) := by
  unfold arrOk at h
  split at h
  · rename_i m e hu; simp at h; obtain ⟨rfl, rfl⟩ := h; exact hu
  · simp at h

section
variable {P : Program} {C : Ctx} {st : St} {ty : TypeId}

theorem P_buildArr {t n E s : Nat} {ag : Bool} {parts : Array (Nat × Operand)} {cs cs' : List AV} {ps : List (Nat × AV)} (ht : arrOk P t n E = true) (hE : tyOk P E ag s = true) (hzc : zCells P t cs)
    (hp : evParts st parts.toList = some ps) (hk : okParts ps = true) (hf : fillA (fun i => some (i * s, s)) cs ps = some cs') : Pur P C (.build t parts) ty st (.agg cs') := fun g a w dst pos af gd hr => by
  obtain ⟨z, hz, hc⟩ := hzc
  obtain ⟨hl, hv⟩ := cvL_rv (I := g.I) (ρ := g.ρ) hc
  obtain ⟨vs', h1, h2⟩ := fill_ok (I := g.I) (ρ := g.ρ) (fun i => some (i * s, s)) ps _ cs cs' z.cells (evParts_rv hr hp) hk ⟨hl, hv⟩ hf
  refine ⟨.agg vs', ?_, by simpa using RV.agg (I := g.I) (ρ := g.ρ) cs' vs'.toList h2.1 h2.2⟩
  cases hi : P.info? t with
  | none => simp [hi] at hz
  | some i =>
    simp [hi] at hz
    have e : (parts.map fun (i, x) => (i, a.eval x)).toList = parts.toList.map fun (i, x) => (i, a.eval x) := by simp
    simp only [execOp, Instr.build, Sem.run_bind, zeroValue, typeInfo, run_program, Result.andThen_ok, hi, Sem.run_pure, hz, run_underlying (arrOk_under ht), run_sizeOf hE, e, h1]

theorem P_index {t n E : Nat} {x y : Operand} {cs : List AV} {kk : IntKind} {i : Int} {c : AV} (ht : arrOk P t n E = true) (hE : tyOk P E false 1 = true) (hx : ev st x = some (.agg cs)) (hy : ev st y = some (.int kk i)) (h0 : 0 ≤ i) (h1 : i < n) (hc : cs[i.toNat]? = some c) :
    Pur P C (.index t x y) ty st c := fun g a w dst pos af gd hr => by
  obtain ⟨vs, e, hl, hv⟩ := inv_agg (ev_rv hr hx)
  have ey := inv_int (ev_rv hr hy)
  have hlt : i.toNat < vs.length := by rw [hl]; exact (List.getElem?_eq_some_iff.1 hc).1
  refine ⟨vs[i.toNat], ?_, hv _ c _ hc (List.getElem?_eq_getElem hlt)⟩
  simp [execOp, Instr.index, asIntOf, e, ey, run_underlying (arrOk_under ht), h0, h1, run_sizeOf hE, part, run_isAgg hE, hlt]

theorem P_index_part {t n E s : Nat} {x y : Operand} {cs ys : List AV} {kk : IntKind} {i : Int} (ht : arrOk P t n E = true) (hE : tyOk P E true s = true) (hx : ev st x = some (.agg cs)) (hy : ev st y = some (.int kk i)) (h0 : 0 ≤ i) (h1 : i < n) (hc : (cs.drop (i.toNat * s)).take s = ys) :
    Pur P C (.index t x y) ty st (.agg ys) := fun g a w dst pos af gd hr => by
  obtain ⟨vs, e, hl, hv⟩ := inv_agg (ev_rv hr hx)
  have ey := inv_int (ev_rv hr hy)
  subst hc
  have key : vs.toArray.extract (i.toNat * s) (i.toNat * s + s) = ((vs.drop (i.toNat * s)).take s).toArray := by
    simp [List.extract_toArray, List.extract]
  refine ⟨.agg ((vs.drop (i.toNat * s)).take s).toArray, ?_, .agg _ _ (by simp [hl]) (fun q c v hc hvv => ?_)⟩
  · simp only [execOp, Instr.index, asIntOf, e, ey, Sem.run_bind, Sem.run_pure, Result.andThen_ok, run_underlying (arrOk_under ht)]
    rw [if_pos ⟨h0, h1⟩]
    simp only [Sem.run_bind, run_sizeOf hE, Result.andThen_ok, part, run_isAgg hE, if_true, Sem.run_pure, key]
  · rw [List.getElem?_take] at hc hvv
    split at hc
    · rename_i hq; rw [if_pos hq] at hvv
      rw [List.getElem?_drop] at hc hvv
      exact hv _ c v hc hvv
    · simp at hc

/-- A struct's fields as parts: a field of a struct by value. -/
theorem P_field {t f : Nat} {x : Operand} {cs : List AV} {off T : Nat} {c : AV} (hf : (match P.underlying t with | some (.struct fs) => (fs[f]?).map fun fd => (fd.offset, fd.type) | _ => none) = some (off, T)) (hT : tyOk P T false 1 = true) (hx : ev st x = some (.agg cs)) (hc : cs[off]? = some c) :
    Pur P C (.field t x f) ty st c := fun g a w dst pos af gd hr => by
  obtain ⟨vs, e, hl, hv⟩ := inv_agg (ev_rv hr hx)
  split at hf <;> try (simp at hf; done)
  rename_i fs hu
  cases hfd : fs[f]? with
  | none => simp [hfd] at hf
  | some fd =>
    simp [hfd] at hf
    obtain ⟨rfl, rfl⟩ := hf
    have hlt : fd.offset < vs.length := by rw [hl]; exact (List.getElem?_eq_some_iff.1 hc).1
    refine ⟨vs[fd.offset], ?_, hv _ c _ hc (List.getElem?_eq_getElem hlt)⟩
    simp [execOp, Instr.field, e, run_underlying hu, hfd, asAgg, part, run_isAgg hT, hlt]

/-! ### Structs held against each other -/
def eqAV : AV → AV → Option Bool
  | .int .i64 a, .int .i64 b => some (decide (a = b))
  | .bool a, .bool b => some (a == b)
  | _, _ => none
def eqL : List AV → List AV → Option Bool
  | [], [] => some true
  | x :: xs, y :: ys => match eqAV x y, eqL xs ys with
    | some p, some q => some (p && q)
    | _, _ => none
  | _, _ => none

/-- Type t's values are told apart cell by cell. -/
def CellEq (P : Program) (t : TypeId) : Prop := ∀ (I : Im) (ρ : Nat → Value) (xs ys : List AV) (vs us : List Value) (b : Bool) (w : World), RVL I ρ xs vs → RVL I ρ ys us → eqL xs ys = some b →
  ((tyOk P t true xs.length = true) → (Op.equal t (.agg vs.toArray) (.agg us.toArray)).run P w = .ok b w) 

theorem run_eqGuard_agg' {P : Program} {op : BinOp} {t : TypeId} {x y : Operand} {xs ys : Array Value} (hm : P.eqGuardType P.depth t = false) (w : World) : (eqGuard op t x y (.agg xs) (.agg ys)).run P w = .ok () w := run_eqGuard_agg (P := P) w op t x y xs ys hm

theorem P_eql_agg {t : TypeId} {x y : Operand} {yt : TypeId} {xs ys : List AV} {b : Bool} (h : CellEq P t) (hm : P.eqGuardType P.depth t = false) (ht : tyOk P t true xs.length = true) (hx : ev st x = some (.agg xs)) (hy : ev st y = some (.agg ys)) (he : eqL xs ys = some b) :
    Pur P C (.binOp .eql t x y yt) ty st (.bool b) := fun g a w dst pos af gd hr => by
  obtain ⟨vs, e, hl, hv⟩ := inv_agg (ev_rv hr hx)
  obtain ⟨us, e', hl', hv'⟩ := inv_agg (ev_rv hr hy)
  refine ⟨.bool b, ?_, .bool _⟩
  have h1 := h g.I g.ρ xs ys vs us b w ⟨hl, hv⟩ ⟨hl', hv'⟩ he ht
  simp only [execOp, e, e', Sem.run_bind, run_eqGuard_agg' hm, Result.andThen_ok, binOp, h1, Sem.run_pure]
theorem P_neq_agg {t : TypeId} {x y : Operand} {yt : TypeId} {xs ys : List AV} {b : Bool} (h : CellEq P t) (hm : P.eqGuardType P.depth t = false) (ht : tyOk P t true xs.length = true) (hx : ev st x = some (.agg xs)) (hy : ev st y = some (.agg ys)) (he : eqL xs ys = some b) :
    Pur P C (.binOp .neq t x y yt) ty st (.bool (!b)) := fun g a w dst pos af gd hr => by
  obtain ⟨vs, e, hl, hv⟩ := inv_agg (ev_rv hr hx)
  obtain ⟨us, e', hl', hv'⟩ := inv_agg (ev_rv hr hy)
  refine ⟨.bool (!b), ?_, .bool _⟩
  have h1 := h g.I g.ρ xs ys vs us b w ⟨hl, hv⟩ ⟨hl', hv'⟩ he ht
  simp only [execOp, e, e', Sem.run_bind, run_eqGuard_agg' hm, Result.andThen_ok, binOp, h1, Sem.run_pure]
theorem P_eql_bool {t : TypeId} {x y : Operand} {yt : TypeId} {p q : Bool} (hu : P.underlying t = some .bool) (hx : ev st x = some (.bool p)) (hy : ev st y = some (.bool q)) : Pur P C (.binOp .eql t x y yt) ty st (.bool (p == q)) := fun g a w dst pos af gd hr => by
  have ex := inv_bool (ev_rv hr hx)
  have ey := inv_bool (ev_rv hr hy)
  refine ⟨.bool (p == q), ?_, .bool _⟩
  have hg : (eqGuard .eql t x y (.bool p) (.bool q)).run P w = .ok () w := by unfold eqGuard; simp
  simp only [execOp, ex, ey, Sem.run_bind, hg, Result.andThen_ok, run_eql_bool (P := P) w t p q hu, Sem.run_pure]
theorem P_neq_bool {t : TypeId} {x y : Operand} {yt : TypeId} {p q : Bool} (hu : P.underlying t = some .bool) (hx : ev st x = some (.bool p)) (hy : ev st y = some (.bool q)) : Pur P C (.binOp .neq t x y yt) ty st (.bool (!(p == q))) := fun g a w dst pos af gd hr => by
  have ex := inv_bool (ev_rv hr hx)
  have ey := inv_bool (ev_rv hr hy)
  refine ⟨.bool (!(p == q)), ?_, .bool _⟩
  have hg : (eqGuard .neq t x y (.bool p) (.bool q)).run P w = .ok () w := by unfold eqGuard; simp
  simp only [execOp, ex, ey, Sem.run_bind, hg, Result.andThen_ok, run_neq_bool (P := P) w t p q hu, Sem.run_pure]
end
end Go.Rse
