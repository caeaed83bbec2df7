/-
  Structs and slices built of parts.
-/
import Derived.Test.YteecbmgddacioaaRse4
namespace Go.Rse
open Go Go.RowKit
set_option linter.unusedVariables false

def AV.cl : AV → List AV
  | .agg cs => cs
  | x => [x]
/-- cells read as cs. -/
def RVL (I : Im) (ρ : Nat → Value) (cs : List AV) (vs : List Value) : Prop := vs.length = cs.length ∧ ∀ (j : Nat) (c : AV) (v : Value), cs[j]? = some c → vs[j]? = some v → RV I ρ c v

theorem RVL.setAt {I : Im} {ρ : Nat → Value} {cs ys : List AV} {vs us : List Value} (h : RVL I ρ cs vs) (h' : RVL I ρ ys us) (n : Nat) (hn : n + ys.length ≤ cs.length) :
    RVL I ρ (setAt cs n ys) (vs.take n ++ us ++ vs.drop (n + us.length)) := by
  obtain ⟨hl, hv⟩ := h
  obtain ⟨hl', hv'⟩ := h'
  refine ⟨by simp [Rse.setAt]; omega, fun q c u hc hu => ?_⟩
  simp only [Rse.setAt, List.getElem?_append, List.length_append, List.length_take] at hc hu
  rw [show min n cs.length = n by omega] at hc
  rw [show min n vs.length = n by omega] at hu
  by_cases q1 : q < n
  · rw [if_pos (by omega), if_pos q1] at hc
    rw [if_pos (by omega), if_pos q1] at hu
    rw [List.getElem?_take, if_pos q1] at hc hu
    exact hv q c u hc hu
  · by_cases q2 : q < n + ys.length
    · rw [if_pos q2, if_neg q1] at hc
      rw [if_pos (by omega), if_neg q1] at hu
      exact hv' _ c u hc hu
    · rw [if_neg q2] at hc
      rw [if_neg (by omega)] at hu
      rw [List.getElem?_drop] at hc hu
      rw [hl'] at hu
      exact hv _ c u hc hu

theorem fold_set (off : Nat) : ∀ (us : List Value) (s : Nat) (cs : Array Value), off + s + us.length ≤ cs.size →
    ((us.zipIdx s).foldl (fun cs (c, j) => cs.setIfInBounds (off + j) c) cs).toList = cs.toList.take (off + s) ++ us ++ cs.toList.drop (off + s + us.length)
  | [], s, cs, _ => by simp
  | u :: r, s, cs, h => by
    simp only [List.length_cons] at h
    have ih := fold_set off r (s + 1) (cs.setIfInBounds (off + s) u) (by simp; omega)
    simp only [List.zipIdx_cons, List.foldl_cons]
    rw [ih]
    simp only [Array.toList_setIfInBounds, List.length_cons]
    have hlt : off + s < cs.toList.length := by simp; omega
    rw [show off + (s + 1) = off + s + 1 by omega]
    rw [show off + s + 1 + r.length = off + s + (r.length + 1) by omega]
    rw [List.drop_set_of_lt (by omega)]
    rw [List.take_set, List.take_succ_eq_append_getElem hlt]
    rw [List.set_append_right _ _ (by simp; omega)]
    simp
    rw [show min (off + s) cs.size = off + s by simp at hlt; omega]
    simp

theorem fold_set' (off : Nat) (us cs : Array Value) (h : off + us.size ≤ cs.size) :
    (us.zipIdx.foldl (fun cs (c, j) => cs.setIfInBounds (off + j) c) cs).toList = cs.toList.take off ++ us.toList ++ cs.toList.drop (off + us.size) := by
  have := fold_set off us.toList 0 cs (by simpa using h)
  rw [← Array.foldl_toList, Array.toList_zipIdx]
  simpa using this

def fillA (place : Nat → Option (Nat × Nat)) : List AV → List (Nat × AV) → Option (List AV)
  | cs, [] => some cs
  | cs, (i, x) :: r => match place i with
    | none => none
    | some (off, size) => bif (x.cl.length.beq size && (off + size).ble cs.length) then fillA place (setAt cs off x.cl) r else none

def okPart : AV → Bool
  | .agg _ => true
  | x => x.sc
theorem cl_cells {I : Im} {ρ : Nat → Value} {x : AV} {v : Value} (h : RV I ρ x v) (hs : okPart x = true) : RVL I ρ x.cl v.cells.toList := by
  cases x with
  | agg cs =>
    obtain ⟨vs, e, hl, hv⟩ := inv_agg h
    subst e
    exact ⟨by simpa [Value.cells, AV.cl] using hl, fun j c u hc hu => hv j c u (by simpa [AV.cl] using hc) (by simpa [Value.cells] using hu)⟩
  | tup cs => simp [okPart, AV.sc] at hs
  | ifb b x => simp [okPart, AV.sc] at hs
  | any => simp [okPart, AV.sc] at hs
  | _ =>
    have hc := (sc_cells h rfl).1
    rw [hc]
    refine ⟨rfl, fun j c u hc hu => ?_⟩
    cases j with
    | zero => simp [AV.cl] at hc hu; subst hc; subst hu; exact h
    | succ j => simp [AV.cl] at hc

def okParts : List (Nat × AV) → Bool
  | [] => true
  | (_, x) :: r => okPart x && okParts r
/-- The parts' values are what the abstract ones say. -/
def PartsRV (I : Im) (ρ : Nat → Value) : List (Nat × AV) → List (Nat × Value) → Prop
  | [], [] => True
  | (i, x) :: r, (j, v) :: q => i = j ∧ RV I ρ x v ∧ PartsRV I ρ r q
  | _, _ => False

theorem fill_ok {I : Im} {ρ : Nat → Value} (place : Nat → Option (Nat × Nat)) : ∀ (ps : List (Nat × AV)) (qs : List (Nat × Value)) (cs cs' : List AV) (vs : Array Value), PartsRV I ρ ps qs → okParts ps = true → RVL I ρ cs vs.toList → fillA place cs ps = some cs' →
    ∃ vs', Instr.fill place vs qs = some vs' ∧ RVL I ρ cs' vs'.toList
  | [], [], cs, cs', vs, _, _, h, e => by simp [fillA] at e; subst e; exact ⟨vs, rfl, h⟩
  | (i, x) :: r, (j, v) :: q, cs, cs', vs, hp, hk, h, e => by
    obtain ⟨rfl, hx, hr⟩ := hp
    simp only [okParts, Bool.and_eq_true] at hk
    have hc := cl_cells hx hk.1
    simp only [fillA] at e
    cases hpl : place i with
    | none => simp [hpl] at e
    | some os =>
      obtain ⟨off, size⟩ := os
      simp only [hpl] at e
      cases hb : (x.cl.length.beq size && (off + size).ble cs.length) with
      | false => simp [hb] at e
      | true =>
        simp only [hb, cond_true] at e
        simp only [Bool.and_eq_true] at hb
        have e1 : x.cl.length = size := by simpa using hb.1
        have e2 : off + size ≤ cs.length := by simpa using hb.2
        have hvl : v.cells.size = size := by rw [← e1, ← hc.1]; simp
        have hsz : vs.size = cs.length := by simpa using h.1
        have hf := fold_set' off v.cells vs (by omega)
        have hset := h.setAt hc off (by omega)
        rw [show v.cells.toList.length = v.cells.size by simp, ← hf] at hset
        obtain ⟨vs', g1, g2⟩ := fill_ok place r q (setAt cs off x.cl) cs' _ hr hk.2 hset e
        refine ⟨vs', ?_, g2⟩
        simp only [Instr.fill, hpl]
        rw [if_neg (by simp; omega)]
        exact g1
  | [], _ :: _, _, _, _, hp, _, _, _ => hp.elim
  | _ :: _, [], _, _, _, hp, _, _, _ => hp.elim

/-- The operands of the parts. -/
def evParts (st : St) : List (Nat × Operand) → Option (List (Nat × AV))
  | [] => some []
  | (i, x) :: r => match ev st x, evParts st r with
    | some y, some ys => some ((i, y) :: ys)
    | _, _ => none
theorem evParts_rv {C : Ctx} {st : St} {g : Gh} {a : Act} {w : World} (hr : Rel C st g a w) : ∀ {ps : List (Nat × Operand)} {ys : List (Nat × AV)}, evParts st ps = some ys → PartsRV g.I g.ρ ys (ps.map fun (i, x) => (i, a.eval x))
  | [], ys, h => by simp [evParts] at h; subst h; trivial
  | (i, x) :: r, ys, h => by
    simp only [evParts] at h
    cases h1 : ev st x with
    | none => simp [h1] at h
    | some y =>
      cases h2 : evParts st r with
      | none => simp [h1, h2] at h
      | some zs =>
        simp [h1, h2] at h; subst h
        exact ⟨rfl, ev_rv hr h1, evParts_rv hr h2⟩

/-- Where the fields of a struct lie (place, cells). -/
def places (P : Program) (t : TypeId) : Option (List (Nat × Nat)) :=
  match P.underlying t with
  | some (.struct fs) => some (fs.toList.map fun f => (f.offset, P.cellsOf f.type))
  | _ => none
def infoAll (P : Program) (t : TypeId) : Bool := match P.underlying t with
  | some (.struct fs) => fs.toList.all fun f => (P.info? f.type).isSome
  | _ => true

theorem run_places {P : Program} (w : World) : ∀ (fs : List Field), (fs.all fun f => (P.info? f.type).isSome) = true →
    (fs.mapM fun f => do pure (f.offset, ← sizeOf f.type) : Sem (List (Nat × Nat))).run P w = .ok (fs.map fun f => (f.offset, P.cellsOf f.type)) w
  | [], _ => rfl
  | f :: r, h => by
    simp only [List.all_cons, Bool.and_eq_true] at h
    obtain ⟨i, hi⟩ := Option.isSome_iff_exists.1 h.1
    have ih := run_places w r h.2
    simp only [List.mapM_cons, Sem.run_bind, sizeOf, typeInfo, run_program, Result.andThen_ok, hi, Sem.run_pure, List.map_cons] at ih ⊢
    simp only [Program.cellsOf, hi] at ih ⊢
    rw [ih]
    simp

section
variable {P : Program} {C : Ctx} {st : St} {ty : TypeId}

theorem P_build {t : TypeId} {parts : Array (Nat × Operand)} {pl : List (Nat × Nat)} {cs cs' : List AV} {ps : List (Nat × AV)} (hpl : places P t = some pl) (hia : infoAll P t = true) (hzc : zCells P t cs)
    (hp : evParts st parts.toList = some ps) (hk : okParts ps = true) (hf : fillA (pl[·]?) cs ps = some cs') : Pur P C (.build t parts) ty st (.agg cs') := fun g a w dst pos af gd hr => by
  obtain ⟨z, hz, hc⟩ := hzc
  obtain ⟨hl, hv⟩ := cvL_rv (I := g.I) (ρ := g.ρ) hc
  obtain ⟨vs', h1, h2⟩ := fill_ok (I := g.I) (ρ := g.ρ) (pl[·]?) ps _ cs cs' z.cells (evParts_rv hr hp) hk ⟨hl, hv⟩ hf
  refine ⟨.agg vs', ?_, by simpa using RV.agg (I := g.I) (ρ := g.ρ) cs' vs'.toList h2.1 h2.2⟩
  unfold places at hpl
  unfold infoAll at hia
  split at hpl <;> try (simp at hpl; done)
  rename_i fs hu
  simp only [hu] at hia
  injection hpl with hpl
  subst hpl
  cases hi : P.info? t with
  | none => simp [hi] at hz
  | some i =>
    simp [hi] at hz
    have hm : (fs.mapM fun f => do pure (f.offset, ← sizeOf f.type) : Sem (Array (Nat × Nat))).run P w = .ok (fs.toList.map fun f => (f.offset, P.cellsOf f.type)).toArray w := by
      have := run_places (P := P) w fs.toList hia
      rw [← Array.toArray_toList (xs := fs), List.mapM_toArray]
      simp only [Sem.run_map, this, Result.andThen_ok]
    have e : (parts.map fun (i, x) => (i, a.eval x)).toList = parts.toList.map fun (i, x) => (i, a.eval x) := by simp
    have h1' : Instr.fill (fun x => (fs.toList.map fun f => (f.offset, P.cellsOf f.type)).toArray[x]?) z.cells (parts.toList.map fun (i, x) => (i, a.eval x)) = some vs' := by
      rw [← h1]; congr 1; funext x; simp
    simp only [execOp, Instr.build, Sem.run_bind, zeroValue, typeInfo, run_program, Result.andThen_ok, hi, Sem.run_pure, hz, run_underlying hu, hm, e, h1']
end
end Go.Rse
