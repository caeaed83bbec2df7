/-
  Structs of ints and bools (and of structs of these) are equal iff their cells are.
-/
import Derived.Test.YteecbmgddacioaaGreatRse12
import Derived.Laws.StructEq
namespace Go.Rse
open Go Go.RowKit
set_option linter.unusedVariables false

def isAggT (P : Program) (t : TypeId) : Bool := match P.underlying t with | some (.struct _) => true | some (.array _ _) => true | _ => false
/-- What a cell holds: 1 an int, 2 a bool, 3 a number of another type. -/
def kAV : AV → Nat
  | .int .i64 _ => 1
  | .int _ _ => 3
  | .bool _ => 2
  | _ => 0
def flat (P : Program) : Nat → TypeId → List Nat
  | 0, _ => []
  | d + 1, t => match P.underlying t with
    | some .bool => [2]
    | some (.int k) => [if k = .i64 then 1 else 3]
    | some (.struct fs) => fs.toList.flatMap fun f => flat P d f.type
    | _ => []
def contig (P : Program) (E : TypeId → Bool) (F : TypeId → List Nat) : Nat → List Field → Nat → Bool
  | off, [], n => off == n
  | off, f :: fs, n => f.offset == off && (f.name != "_") && tyOk P f.type (isAggT P f.type) (P.cellsOf f.type) && ((isAggT P f.type || P.cellsOf f.type == 1) && (F f.type).length == P.cellsOf f.type) && E f.type && contig P E F (off + P.cellsOf f.type) fs n
def eqOk (P : Program) : Nat → TypeId → Bool
  | 0, _ => false
  | d + 1, t => match P.underlying t with
    | some .bool => true
    | some (.int _) => true
    | some (.struct fs) => !P.stoodInHeld t && contig P (eqOk P d) (flat P d) 0 fs.toList (P.cellsOf t)
    | _ => false
def valT (P : Program) (t : TypeId) (vs : List Value) : Value := if isAggT P t then .agg vs.toArray else vs.headD .nilIface

theorem eqL_split : ∀ (n : Nat) {xs ys : List AV} {b : Bool}, eqL xs ys = some b → ∃ b1 b2, eqL (xs.take n) (ys.take n) = some b1 ∧ eqL (xs.drop n) (ys.drop n) = some b2 ∧ b = (b1 && b2)
  | 0, xs, ys, b, h => ⟨true, b, by simp [eqL], by simpa using h, by simp⟩
  | n + 1, [], [], b, h => by simp [eqL] at h; subst h; exact ⟨true, true, by simp [eqL], by simp [eqL], rfl⟩
  | n + 1, [], y :: ys, b, h => by simp [eqL] at h
  | n + 1, x :: xs, [], b, h => by simp [eqL] at h
  | n + 1, x :: xs, y :: ys, b, h => by
    simp only [eqL] at h
    cases hx : eqAV x y with
    | none => simp [hx] at h
    | some p =>
      cases hq : eqL xs ys with
      | none => simp [hx, hq] at h
      | some q =>
        simp only [hx, hq, Option.some.injEq] at h
        subst h
        obtain ⟨b1, b2, h1, h2, h3⟩ := eqL_split n hq
        refine ⟨p && b1, b2, by simp only [List.take_succ_cons, eqL, hx, h1], by simpa using h2, by rw [h3, Bool.and_assoc]⟩
theorem RVL.take {I : Im} {ρ : Nat → Value} {xs : List AV} {vs : List Value} (n : Nat) (h : RVL I ρ xs vs) : RVL I ρ (xs.take n) (vs.take n) := by
  refine ⟨by simp [h.1], fun j c v hc hv => ?_⟩
  rw [List.getElem?_take] at hc hv
  split at hc
  · rename_i hj; rw [if_pos hj] at hv; exact h.2 j c v hc hv
  · simp at hc
theorem RVL.drop {I : Im} {ρ : Nat → Value} {xs : List AV} {vs : List Value} (n : Nat) (h : RVL I ρ xs vs) : RVL I ρ (xs.drop n) (vs.drop n) := by
  refine ⟨by simp [h.1], fun j c v hc hv => ?_⟩
  rw [List.getElem?_drop] at hc hv
  exact h.2 _ c v hc hv
/-- Values of type t are equal as their cells are, at depth D. -/
def EqD (P : Program) (D : Nat) (t : TypeId) (L : List Nat) : Prop := ∀ (I : Im) (ρ : Nat → Value) (xs ys : List AV) (vs us : List Value) (b : Bool) (w : World), RVL I ρ xs vs → RVL I ρ ys us → xs.map kAV = L → ys.map kAV = L → (isAggT P t = true → xs.length = P.cellsOf t) → eqL xs ys = some b →
  (Op.equalIn D t (valT P t vs) (valT P t us)).run P w = .ok b w
theorem eqL_len : ∀ {xs ys : List AV} {b : Bool}, eqL xs ys = some b → xs.length = ys.length
  | [], [], _, _ => rfl
  | [], _ :: _, _, h => by simp [eqL] at h
  | _ :: _, [], _, h => by simp [eqL] at h
  | x :: xs, y :: ys, b, h => by
    simp only [eqL] at h
    cases hx : eqAV x y with
    | none => simp [hx] at h
    | some p =>
      cases hq : eqL xs ys with
      | none => simp [hx, hq] at h
      | some q => simp [eqL_len hq]
theorem contig_le {P : Program} {E : TypeId → Bool} {F : TypeId → List Nat} : ∀ {fs : List Field} {off n : Nat}, contig P E F off fs n = true → off ≤ n
  | [], off, n, h => by simp [contig] at h; omega
  | f :: fs, off, n, h => by
    simp only [contig, Bool.and_eq_true] at h
    have := contig_le h.2; omega
theorem run_part_val {P : Program} {t : TypeId} (ht : tyOk P t (isAggT P t) (P.cellsOf t) = true) (h1 : isAggT P t = true ∨ P.cellsOf t = 1) {vs : List Value} {off : Nat} (hl : off + P.cellsOf t ≤ vs.length) (w : World) : (part t vs.toArray off).run P w = .ok (valT P t ((vs.drop off).take (P.cellsOf t))) w := by
  have key : vs.toArray.extract off (off + P.cellsOf t) = ((vs.drop off).take (P.cellsOf t)).toArray := by
    simp [List.extract_toArray, List.extract]
  unfold part valT
  by_cases ha : isAggT P t = true
  · rw [ha] at ht
    simp only [Sem.run_bind, run_isAgg ht, Result.andThen_ok, if_true, run_sizeOf ht, Sem.run_pure, key, ha]
  · have h2 : P.cellsOf t = 1 := by rcases h1 with h | h; exact absurd h ha; exact h
    have ha' : isAggT P t = false := by simpa using ha
    rw [ha'] at ht
    have hlt : off < vs.length := by omega
    have e : vs.toArray[off]? = some vs[off] := by simp [hlt]
    simp only [Sem.run_bind, run_isAgg ht, Result.andThen_ok, Bool.false_eq_true, if_false, e, Sem.run_pure, ha', h2]
    rw [List.drop_eq_getElem_cons hlt]
    rfl
theorem eqFieldsAt {P : Program} {D : Nat} {E : TypeId → Bool} {F : TypeId → List Nat} (hE : ∀ t, E t = true → EqD P D t (F t)) : ∀ (fs : List Field) (off n : Nat), contig P E F off fs n = true → ∀ (I : Im) (ρ : Nat → Value) (xs ys : List AV) (vs us : List Value) (b : Bool) (w : World), RVL I ρ xs vs → RVL I ρ ys us → xs.length = n → ys.length = n →
    (xs.drop off).map kAV = fs.flatMap (fun f => F f.type) → (ys.drop off).map kAV = fs.flatMap (fun f => F f.type) →
    eqL (xs.drop off) (ys.drop off) = some b → (Op.eqFields D vs.toArray us.toArray fs).run P w = .ok b w
  | [], off, n, h, I, ρ, xs, ys, vs, us, b, w, hx, hy, hxn, hyn, kx, ky, he => by
    simp [contig] at h
    rw [List.drop_of_length_le (by omega), List.drop_of_length_le (by omega)] at he
    simp [eqL] at he; subst he
    simp [Op.eqFields]
  | f :: fs, off, n, h, I, ρ, xs, ys, vs, us, b, w, hx, hy, hxn, hyn, kx, ky, he => by
    simp only [contig, Bool.and_eq_true, beq_iff_eq, Bool.or_eq_true] at h
    obtain ⟨⟨⟨⟨⟨h1, h2⟩, h3⟩, h4, h4'⟩, h5⟩, h6⟩ := h
    have hle := contig_le h6
    have hn : f.name ≠ "_" := by simpa using h2
    simp only [List.flatMap_cons] at kx ky
    have spl : ∀ {zs : List AV}, (zs.drop off).map kAV = F f.type ++ fs.flatMap (fun f => F f.type) → ((zs.drop off).take (P.cellsOf f.type)).map kAV = F f.type ∧ (zs.drop (off + P.cellsOf f.type)).map kAV = fs.flatMap (fun f => F f.type) := fun hz => by
      constructor
      · rw [List.map_take, hz, List.take_append_of_le_length (by omega), List.take_of_length_le (by omega)]
      · rw [← List.drop_drop, List.map_drop, hz, ← h4', List.drop_left]
    obtain ⟨b1, b2, e1, e2, e3⟩ := eqL_split (P.cellsOf f.type) he
    have q1 := hE f.type h5 I ρ _ _ _ _ b1 w ((hx.drop off).take (P.cellsOf f.type)) ((hy.drop off).take (P.cellsOf f.type)) (spl kx).1 (spl ky).1 (fun ha => by simp; omega) e1
    have p1 := run_part_val h3 h4 (vs := vs) (off := off) (by rw [hx.1]; omega) w
    have p2 := run_part_val h3 h4 (vs := us) (off := off) (by rw [hy.1]; omega) w
    rw [List.drop_drop, List.drop_drop] at e2
    have q2 := eqFieldsAt hE fs (off + P.cellsOf f.type) n h6 I ρ xs ys vs us b2 w hx hy hxn hyn (spl kx).2 (spl ky).2 e2
    rw [Op.eqFields, if_pos hn, h1]
    simp only [Sem.run_bind, p1, Result.andThen_ok, p2, q1]
    subst e3
    cases b1
    · simp
    · simpa using q2
theorem eqAt {P : Program} : ∀ (d : Nat) (t : TypeId), eqOk P d t = true → ∀ D, d ≤ D → EqD P D t (flat P d t)
  | 0, t, h, D, hD => by simp [eqOk] at h
  | d + 1, t, h, D, hD => fun I ρ xs ys vs us b w hx hy kx ky ha he => by
    obtain ⟨D', rfl⟩ : ∃ D', D = D' + 1 := ⟨D - 1, by omega⟩
    unfold eqOk at h
    unfold flat at kx ky
    have sc : ∀ q : Nat, isAggT P t = false → xs.map kAV = [q] → ys.map kAV = [q] → (∀ x y v u p, kAV x = q → kAV y = q → RV I ρ x v → RV I ρ y u → eqAV x y = some p → (Op.equalIn (D' + 1) t v u).run P w = .ok p w) → (Op.equalIn (D' + 1) t (valT P t vs) (valT P t us)).run P w = .ok b w := fun q hag k1 k2 hsc => by
      have hl : xs.length = 1 := by have := congrArg List.length k1; simpa using this
      have hl2 := eqL_len he
      unfold valT; rw [hag]
      match xs, ys, vs, us, hl, hl2, hx, hy, he, k1, k2 with
      | [x], [y], [v], [u], _, _, hx, hy, he, k1, k2 =>
        simp only [eqL] at he
        cases hq : eqAV x y with
        | none => simp [hq] at he
        | some p =>
          simp [hq] at he; subst he
          simp at k1 k2
          exact hsc x y v u p k1 k2 (hx.2 0 x v rfl rfl) (hy.2 0 y u rfl rfl) hq
      | [_], [_], [], _, _, _, hx, _, _, _, _ => simp [RVL] at hx
      | [_], [_], _ :: _ :: _, _, _, _, hx, _, _, _, _ => simp [RVL] at hx
      | [_], [_], [_], [], _, _, _, hy, _, _, _ => simp [RVL] at hy
      | [_], [_], [_], _ :: _ :: _, _, _, _, hy, _, _, _ => simp [RVL] at hy
    cases hu : P.underlying t with
    | none => simp [hu] at h
    | some T =>
      cases T with
      | bool =>
        simp only [hu] at kx ky
        refine sc 2 (by simp [isAggT, hu]) kx ky fun x y v u p h1 h2 hxv hyu hp => ?_
        unfold eqAV at hp
        split at hp
        · simp [kAV] at h1
        · rename_i a c; rw [inv_bool hxv, inv_bool hyu]; simp at hp; subst hp
          exact run_equalIn_bool' w D' t a c hu
        · simp at hp
      | int k =>
        simp only [hu] at kx ky
        refine sc _ (by simp [isAggT, hu]) kx ky fun x y v u p h1 h2 hxv hyu hp => ?_
        unfold eqAV at hp
        split at hp
        · rename_i a c; rw [inv_int hxv, inv_int hyu]; simp at hp; subst hp
          rw [run_equalIn_int w D' t .i64 k a c hu]; rfl
        · simp only [kAV] at h1; split at h1 <;> simp at h1
        · simp at hp
      | struct fs =>
        simp only [hu, Bool.and_eq_true, Bool.not_eq_true'] at h
        simp only [hu] at kx ky
        have hag : isAggT P t = true := by simp [isAggT, hu]
        have hf : P.fieldsOf t = fs := by simp [Program.fieldsOf, hu]
        have hn := ha hag
        unfold valT; rw [hag]
        simp only [if_true]
        rw [run_equalIn_struct w D' t vs.toArray us.toArray (by rw [hf]; exact hu) h.1, hf]
        exact eqFieldsAt (E := eqOk P d) (F := flat P d) (fun t' ht' => eqAt d t' ht' D' (by omega)) fs.toList 0 _ h.2 I ρ xs ys vs us b w hx hy hn (by rw [← eqL_len he]; exact hn) (by simpa using kx) (by simpa using ky) (by simpa using he)
      | _ => simp [hu] at h
/-- Two structs of type t, cell by cell. -/
theorem run_equal_cells {P : Program} {t : TypeId} {d : Nat} (h : eqOk P d t = true) (hd : d ≤ 10000) {xs ys : List AV} {vs us : List Value} {I : Im} {ρ : Nat → Value} {b : Bool} {w : World} (hx : RVL I ρ xs vs) (hy : RVL I ρ ys us) (hty : tyOk P t true xs.length = true)
    (kx : xs.map kAV = flat P d t) (ky : ys.map kAV = flat P d t) (he : eqL xs ys = some b) : (Op.equal t (.agg vs.toArray) (.agg us.toArray)).run P w = .ok b w := by
  have ha : isAggT P t = true := by
    simp only [tyOk, Bool.and_eq_true] at hty
    obtain ⟨_, h2⟩ := hty
    unfold isAggT
    cases hu : P.underlying t with
    | none => simp [hu] at h2
    | some T => cases T <;> simp_all
  have h1 := eqAt d t h 10000 hd I ρ xs ys vs us b w hx hy kx ky (fun _ => by
    simp only [tyOk, Bool.and_eq_true] at hty
    obtain ⟨h1, _⟩ := hty
    unfold Program.cellsOf
    cases hi : P.info? t with
    | none => simp [hi] at h1
    | some i => simp [hi] at h1 ⊢; omega) he
  unfold valT at h1; rw [ha] at h1
  exact h1
section
variable {P : Program} {C : Ctx} {st : St} {ty : TypeId}
theorem P_eql_st {t : TypeId} {x y : Operand} {yt : TypeId} {xs ys : List AV} {b : Bool} {L : List Nat} {d : Nat} (h : (eqOk P d t && decide (d ≤ 10000)) = true) (hL : flat P d t = L) (hm : P.eqGuardType P.depth t = false) (ht : tyOk P t true xs.length = true) (hx : ev st x = some (.agg xs)) (hy : ev st y = some (.agg ys)) (kx : xs.map kAV = L) (ky : ys.map kAV = L) (he : eqL xs ys = some b) :
    Pur P C (.binOp .eql t x y yt) ty st (.bool b) := fun g a w dst pos af gd hr => by
  simp at h
  obtain ⟨vs, e, hl, hv⟩ := inv_agg (ev_rv hr hx)
  obtain ⟨us, e', hl', hv'⟩ := inv_agg (ev_rv hr hy)
  refine ⟨.bool b, ?_, .bool _⟩
  have h1 := run_equal_cells (w := w) h.1 h.2 ⟨hl, hv⟩ ⟨hl', hv'⟩ ht (kx.trans hL.symm) (ky.trans hL.symm) he
  simp only [execOp, e, e', Sem.run_bind, run_eqGuard_agg' hm, Result.andThen_ok, binOp, h1, Sem.run_pure]
theorem P_neq_st {t : TypeId} {x y : Operand} {yt : TypeId} {xs ys : List AV} {b : Bool} {L : List Nat} {d : Nat} (h : (eqOk P d t && decide (d ≤ 10000)) = true) (hL : flat P d t = L) (hm : P.eqGuardType P.depth t = false) (ht : tyOk P t true xs.length = true) (hx : ev st x = some (.agg xs)) (hy : ev st y = some (.agg ys)) (kx : xs.map kAV = L) (ky : ys.map kAV = L) (he : eqL xs ys = some b) :
    Pur P C (.binOp .neq t x y yt) ty st (.bool (!b)) := fun g a w dst pos af gd hr => by
  simp at h
  obtain ⟨vs, e, hl, hv⟩ := inv_agg (ev_rv hr hx)
  obtain ⟨us, e', hl', hv'⟩ := inv_agg (ev_rv hr hy)
  refine ⟨.bool (!b), ?_, .bool _⟩
  have h1 := run_equal_cells (w := w) h.1 h.2 ⟨hl, hv⟩ ⟨hl', hv'⟩ ht (kx.trans hL.symm) (ky.trans hL.symm) he
  simp only [execOp, e, e', Sem.run_bind, run_eqGuard_agg' hm, Result.andThen_ok, binOp, h1, Sem.run_pure]
end
end Go.Rse
