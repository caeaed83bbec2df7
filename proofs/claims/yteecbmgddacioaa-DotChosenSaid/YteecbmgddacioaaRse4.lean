/-
  Steps that make memory or write it: boxes, new variables, stores, slices of the function's own, append.
-/
import Derived.Test.YteecbmgddacioaaRse3
import Derived.Laws.CopyRow
namespace Go.Rse
open Go Go.RowKit
set_option linter.unusedVariables false

def AV.sc : AV → Bool
  | .int _ _ | .bool _ | .str _ | .nils | .nilf | .sl _ _ | .own _ | .ptr _ _ _ _ | .ept _ _ _ | .fn _ _ | .yv _ | .sub _ _ _ _ => true
  | _ => false
theorem sc_cells {I : Im} {ρ : Nat → Value} {x : AV} {v : Value} (h : RV I ρ x v) (hs : x.sc = true) : v.cells = #[v] ∧ v.oneCell' = true := by
  cases h <;> simp [AV.sc] at hs <;> exact ⟨rfl, rfl⟩
def scL : List AV → Bool
  | [] => true
  | x :: r => x.sc && scL r
theorem scL_get : ∀ {cs : List AV}, scL cs = true → ∀ {j : Nat} {c : AV}, cs[j]? = some c → c.sc = true
  | [], _, _, _, h => by simp at h
  | x :: r, h, 0, c, e => by simp [scL] at h; simp at e; exact e ▸ h.1
  | x :: r, h, j + 1, c, e => by simp [scL] at h; exact scL_get h.2 (by simpa using e)

def Gh.nw (g : Gh) (d b k : Nat) (v : Value) : Gh := { ρ := fun n => if n = k then v else g.ρ n, I := g.I, O := fun b' => if b' = b then some (d, k) else g.O b' }

theorem ImOB.nw {g : Gh} {w w' : World} (h : ImOB g w) (hg : Grow w w') (hlt : w.heap.size < w'.heap.size) (d k : Nat) (v : Value) : ImOB (g.nw d w.heap.size k v) w' := by
  refine ⟨fun b o u hI => ?_, fun b k' hO => ?_⟩
  · obtain ⟨h1, h2⟩ := h.1 b o u hI
    refine ⟨hg.cell h1, ?_⟩
    have := cell_lt h1
    simp only [Gh.nw]
    rw [if_neg (by omega)]; exact h2
  · simp only [Gh.nw] at hO
    split at hO
    · omega
    · exact Nat.lt_trans (h.2 b k' hO) hlt
theorem Add.nw {g : Gh} {w w' : World} (hg : Grow w w') (d k : Nat) (v : Value) : Add (some k) g w (g.nw d w.heap.size k v) w' :=
  ⟨Im.le_refl _, fun n hn => by simp only [Gh.nw]; rw [if_neg (fun e => hn (by rw [e]))], fun b hb => by simp only [Gh.nw]; rw [if_neg (by omega)], hg⟩

/-- The cells of type T's zero. -/
def zCells (P : Program) (T : TypeId) (cs : List AV) : Prop := ∃ z, (P.info? T).bind (·.zero) = some z ∧ cvL z.cells.toList = some cs

section
variable {P : Program} {C : Ctx} {st : St} {ty : TypeId}

/-- A new variable that holds cells. -/
theorem new_var {g : Gh} {a : Act} {w : World} (hr : Rel C st g a w) {T : TypeId} {cs : List AV} {vs : Array Value} {k : Nat} (hl : vs.size = cs.length) (hv : ∀ (j : Nat) c v, cs[j]? = some c → vs[j]? = some v → RV g.I g.ρ c v) (hf : AV.fr.frL k cs = true) :
    Add (some k) g w (g.nw C.d w.heap.size k (.pointer (some ⟨w.heap.size, 0, none⟩))) (w.alloc (.cells vs T)) ∧
    RV (g.nw C.d w.heap.size k (.pointer (some ⟨w.heap.size, 0, none⟩))).I (g.nw C.d w.heap.size k (.pointer (some ⟨w.heap.size, 0, none⟩))).ρ (.ptr k 0 0 0) (.pointer (some ⟨w.heap.size, 0, none⟩)) ∧
    ImOB (g.nw C.d w.heap.size k (.pointer (some ⟨w.heap.size, 0, none⟩))) (w.alloc (.cells vs T)) ∧
    BlkSat C (g.nw C.d w.heap.size k (.pointer (some ⟨w.heap.size, 0, none⟩))) (w.alloc (.cells vs T)) k (.box cs T) := by
  have hadd := Add.nw (g := g) (Grow.alloc w (.cells vs T)) C.d k (.pointer (some ⟨w.heap.size, 0, none⟩))
  refine ⟨hadd, ?_, ImOB.nw ⟨hr.sat.im, hr.sat.ob⟩ (Grow.alloc _ _) (by simp) C.d k _, ?_⟩
  · exact .ptr k 0 0 0 w.heap.size (by simp [Gh.nw, blkOf])
  · refine ⟨w.heap.size, vs, by simp [Gh.nw], by simp [Gh.nw], .inl hr.ext.size, heap_alloc_new w _, hl, fun j c v hc hvv => ?_⟩
    exact (hv j c v hc hvv).renameOpt (nk := some k) (fun n hn => by injection hn with hn; subst hn; exact AV.frL_get hf hc) hadd.ρ

theorem A_box {T : TypeId} {x : Operand} {y : AV} {k : Nat} (hx : ev st x = some y) (hs : y.sc = true) (hf : y.fr k = true) : StepA P C (.box T x) ty st (.ptr k 0 0 0) (some (k, .box [y] T)) :=
  StepA.of_run fun g a w dst pos af gd hr => by
    have hy := ev_rv hr hx
    obtain ⟨h1, h2, h3, h4⟩ := new_var hr (T := T) (cs := [y]) (vs := #[a.eval x]) (k := k) rfl (fun j c v hc hv => by
      cases j with
      | zero => simp at hc hv; subst hc; subst hv; exact hy
      | succ j => simp at hc) (by simp [AV.fr.frL, hf])
    refine ⟨_, _, _, ?_, h1, h2, h3, fun k' B hB => by injection hB with hB; injection hB with e1 e2; subst e1; subst e2; exact h4⟩
    simp only [execOp, Instr.box, newVar, newRow, (sc_cells hy hs).1]
    rfl
theorem A_box_agg {T : TypeId} {x : Operand} {cs : List AV} {k : Nat} (hx : ev st x = some (.agg cs)) (hf : AV.fr.frL k cs = true) : StepA P C (.box T x) ty st (.ptr k 0 0 0) (some (k, .box cs T)) :=
  StepA.of_run fun g a w dst pos af gd hr => by
    obtain ⟨vs, e, hl, hv⟩ := inv_agg (ev_rv hr hx)
    obtain ⟨h1, h2, h3, h4⟩ := new_var hr (T := T) (cs := cs) (vs := vs.toArray) (k := k) (by simpa using hl) (fun j c v hc hvv => hv j c v hc (by simpa using hvv)) hf
    refine ⟨_, _, _, ?_, h1, h2, h3, fun k' B hB => by injection hB with hB; injection hB with e1 e2; subst e1; subst e2; exact h4⟩
    simp only [execOp, Instr.box, newVar, newRow, e, Value.cells]
    rfl

theorem cv_fr {v : Value} {x : AV} (h : cv v = some x) (k : Nat) : x.fr k = true := by
  unfold cv at h
  split at h <;> first
    | (injection h with h; subst h; rfl)
    | exact absurd h (by simp)
theorem cvL_fr (k : Nat) : ∀ {vs : List Value} {xs : List AV}, cvL vs = some xs → AV.fr.frL k xs = true
  | [], xs, h => by simp [cvL] at h; subst h; rfl
  | v :: r, xs, h => by
    simp only [cvL] at h
    split at h <;> try (simp at h; done)
    rename_i x ys h1 h2
    injection h with h; subst h
    simp [AV.fr.frL, cv_fr h1 k, cvL_fr k h2]

theorem A_alloc {T : TypeId} {cs : List AV} {k : Nat} (hzc : zCells P T cs) : StepA P C (.alloc T) ty st (.ptr k 0 0 0) (some (k, .box cs T)) :=
  StepA.of_run fun g a w dst pos af gd hr => by
    obtain ⟨z, hz, hc⟩ := hzc
    obtain ⟨hl, hv⟩ := cvL_rv (I := g.I) (ρ := g.ρ) hc
    obtain ⟨h1, h2, h3, h4⟩ := new_var hr (T := T) (cs := cs) (vs := z.cells) (k := k) (by simpa using hl) (fun j c v hcc hvv => hv j c v hcc (by simpa using hvv)) (cvL_fr k hc)
    refine ⟨_, _, _, ?_, h1, h2, h3, fun k' B hB => by injection hB with hB; injection hB with e1 e2; subst e1; subst e2; exact h4⟩
    cases hi : P.info? T with
    | none => simp [hi] at hz
    | some i =>
      simp [hi] at hz
      simp [execOp, Instr.alloc, zeroValue, typeInfo, hi, hz, newVar, newRow]

/-! ### Writing to a block of one's own -/

theorem BlkSat.far {g : Gh} {w w' : World} {k b k2 : Nat} {B : Blk} (h : BlkSat C g w k2 B) (hm : w.grownBy w' (some b)) (hb : g.O b = some (C.d, k)) (hk : k2 ≠ k) (hio : ImOB g w') : BlkSat C g w' k2 B := by
  cases B with
  | box cs E =>
    obtain ⟨b2, vs, h1, h2, h3, h4, h5, h6⟩ := h
    have hlt : b2 < w.heap.size := by
      rcases Nat.lt_or_ge b2 w.heap.size with hl | hl
      · exact hl
      · simp [Array.getElem?_eq_none hl] at h4
    have hne : b2 ≠ b := fun e => hk (by rw [e, hb] at h2; simpa using h2.symm)
    exact ⟨b2, vs, h1, h2, h3, (hm.block b2 hlt (by simpa using hne)).trans h4, h5, h6⟩
  | row enc l E s =>
    obtain ⟨xs, h1, h2, h3, h4⟩ := h
    refine ⟨xs, h1.kept hm ?_, h2, h3, h4⟩
    cases ho : (g.ρ k2).ownBlock with
    | none => exact .inl rfl
    | some b2 =>
      refine .inr ?_
      intro e
      injection e with e
      subst e
      have hbk : blkOf (g.ρ k2) = some b2 := by
        revert ho
        cases g.ρ k2 <;> simp [Value.ownBlock]
        rename_i A n c
        cases A <;> simp [blkOf]
      have := (h4 b2 hbk).1
      rw [hb] at this
      exact hk (by simpa using this.symm)
  | hold vs cs => exact h
  | obj b2 o =>
    obtain ⟨h1, h2, h3⟩ := h
    have hne : b2 ≠ b := fun e => hk (by rw [e, hb] at h2; simpa using h2.symm)
    exact ⟨(hm.block b2 (heap_lt h1) (by simpa using hne)).trans h1, h2, h3⟩
  | yld j on => exact yld_far h (Im.le_refl _) (fun _ _ _ => rfl) (fun b' e => by injection e with e; subst e; exact .inl ⟨k, hb⟩) hm h.2.2.2.1 hio
  | dead => trivial

theorem Dfs.grown {g : Gh} {w w' : World} {b d k : Nat} {ds : List Deferred} (h : Dfs C g ds w) (hm : w.grownBy w' (some b)) (hb : g.O b = some (d, k)) : Dfs C g ds w' := by
  obtain ⟨D, h1, hn, h2⟩ := h
  refine ⟨D, h1, hn, fun r hr => ?_⟩
  obtain ⟨h3, h4, h5⟩ := h2 r hr
  have hlt : r < w.heap.size := by
    rcases Nat.lt_or_ge r w.heap.size with hl | hl
    · exact hl
    · simp [Array.getElem?_eq_none hl] at h3
  exact ⟨(hm.block r hlt (fun e => by injection e with e; rw [e, hb] at h4; simp at h4)).trans h3, h4, h5⟩

theorem Rel.modify {g : Gh} {a : Act} {w w' : World} {k b : Nat} {B : Blk} (h : Rel C st g a w) (hb : g.O b = some (C.d, k)) (hok : C.okb b) (hm : w.grownBy w' (some b)) (hB : BlkSat C g w' k B) : Rel C (putH st k B) g a w' := by
  have him : ∀ b' o u, g.I b' o = some u → w'.cell? ⟨b', o, none⟩ = some u ∧ g.O b' = none := fun b' o u hI => by
    obtain ⟨h1, h2⟩ := h.sat.im b' o u hI
    refine ⟨?_, h2⟩
    have hne : b' ≠ b := fun e => by rw [e, hb] at h2; simp at h2
    rw [World.cell?_of_block (w := w) (a := ⟨b', o, none⟩) (hm.block b' (cell_lt h1) (by simpa using hne))]; exact h1
  have hob : ∀ b' k', g.O b' = some k' → b' < w'.heap.size := fun b' k' hO => Nat.lt_of_lt_of_le (h.sat.ob b' k' hO) hm.size
  refine ⟨h.size, h.defers.grown hm hb, h.tmps, ⟨him, hob, fun k' B' hB' => ?_⟩, ?_⟩
  · simp only [putH, lk_cons] at hB'
    cases hbq : k.beq k' <;> simp [hbq] at hB'
    · exact (h.sat.blk k' B' hB').far hm hb (fun e => by subst e; simp at hbq) ⟨him, hob⟩
    · have : k = k' := by simpa using hbq
      subst this; exact hB' ▸ hB
  · exact ⟨h.ext.I, hm.os.trans h.ext.os, hm.tape.trans h.ext.tape, hm.output.trans h.ext.output, Nat.le_trans h.ext.size hm.size, fun b' hb' hn ho => by
      have hne : b' ≠ b := fun e => hn (e ▸ hok)
      obtain ⟨h1, h2⟩ := h.ext.keep b' hb' hn ho
      exact ⟨(hm.block b' (Nat.lt_of_lt_of_le hb' h.ext.size) (by simpa using hne)).trans h1, h2⟩, h.ext.own⟩

theorem grownBy_setRow {w : World} {b : Nat} {cs : Array Value} : w.grownBy (w.setRow b cs) (some b) :=
  ⟨rfl, rfl, rfl, by simp [World.setRow], fun k hk hne => by
    have : b ≠ k := fun e => hne (by rw [e])
    simp [World.setRow, Array.getElem?_modify, this]⟩

/-- An operation that turns the state st into st'. -/
def StepM (P : Program) (C : Ctx) (op : Op) (ty : TypeId) (dst : Option Tmp) (st st' : St) : Prop :=
  ∀ (g : Gh) (a : Act) (w : World) pos af gd, Rel C st g a w → ∀ (K : Act → World → Prop),
    (∀ a' w' g', Rel C st' g' a' w' → K a' w') → wp1 P { dst := dst, op := op, type := ty, pos := pos, after := af, guard := gd } a w K

theorem Ex.stepM {ops : Array Oper} {st' : St} {Q : Exit → St → Prop} {rest : List Oper} {dst : Option Tmp} {op : Op} {pos : String} {af : Array Edge}
    (hs : StepM P C op ty dst st st') (h : Ex P C ops rest st' Q) : Ex P C ops ({ dst := dst, op := op, type := ty, pos := pos, after := af, guard := none } :: rest) st Q := fun g a w hr =>
  wpListIn_plain rfl fun K hK => wp1_in <| hs g a w pos af none hr K fun a' w' g' h' => hK _ _ (h g' a' w' h')

/-- The list with xs laid at place n. -/
def setAt (cs : List AV) (n : Nat) (xs : List AV) : List AV := cs.take n ++ xs ++ cs.drop (n + xs.length)

theorem M_store_cells {g : Gh} {a : Act} {w : World} (hr : Rel C st g a w) {T : TypeId} {k z i j n : Nat} {cs ys : List AV} {E : TypeId} {ag : Bool} {x : Operand} {p : Value} {v : Value} {vs : List Value} (hx : ev st x = some (.ptr k z i j)) (hk : lk st.h k = some (.box cs E))
    (ht : tyOk P T ag n = true) (hv : v.cells = vs.toArray) (hvl : vs.length = ys.length) (hvr : ∀ (q : Nat) c u, ys[q]? = some c → vs[q]? = some u → RV g.I g.ρ c u) (h1 : ∀ u ∈ vs, u.oneCell' = true)
    (hn : ys.length = n) (hle : i * z + j + ys.length ≤ cs.length) :
    ∃ w', (Instr.storeAt T (a.eval x) v).run P w = .ok () w' ∧ Rel C (putH st k (.box (setAt cs (i * z + j) ys) E)) g a w' := by
  obtain ⟨b, hb, e⟩ := inv_ptr (ev_rv hr hx)
  obtain ⟨b', cur, c1, c2, c3, c4, c5, c6⟩ := hr.sat.blk k _ hk
  have : b' = b := by rw [c1] at hb; simpa [blkOf] using hb
  subst this
  have hst := run_storeCells_at (P := P) b' (i * z + j) E vs 0 cur w c4 (by omega) h1
  refine ⟨w.setRow b' (List.take (i * z + j) cur.toList ++ vs ++ List.drop (i * z + j + vs.length) cur.toList).toArray, ?_, hr.modify c2 c3 grownBy_setRow ?_⟩
  · simp only [Instr.storeAt, e, Instr.sureAddr, Sem.run_bind, Sem.run_pure, Result.andThen_ok, storeVar, run_sizeOf ht, hv]
    rw [if_neg (by simp; omega)]
    simpa using hst
  · refine ⟨b', _, c1, c2, c3, setRow_heap w b' cur _ E _ c4, ?_, fun q c u hc hu => ?_⟩
    · simp [setAt]; omega
    · simp only [List.getElem?_toArray] at hu
      simp only [setAt, List.getElem?_append, List.length_append, List.length_take] at hc hu
      rw [show min (i * z + j) cs.length = i * z + j by omega] at hc
      rw [show min (i * z + j) cur.toList.length = i * z + j by simp; omega] at hu
      by_cases q1 : q < i * z + j
      · rw [if_pos (by omega), if_pos q1] at hc
        rw [if_pos (by omega), if_pos q1] at hu
        rw [List.getElem?_take, if_pos q1] at hc hu
        exact c6 q c u hc (by simpa using hu)
      · by_cases q2 : q < i * z + j + ys.length
        · rw [if_pos q2, if_neg q1] at hc
          rw [if_pos (by omega), if_neg q1] at hu
          exact hvr _ c u hc hu
        · rw [if_neg q2] at hc
          rw [if_neg (by omega)] at hu
          rw [List.getElem?_drop] at hc hu
          rw [hvl] at hu
          exact c6 _ c u hc (by simpa using hu)

theorem M_store {T : TypeId} {x y : Operand} {k z i j : Nat} {cs : List AV} {E : TypeId} {u : AV} (hx : ev st x = some (.ptr k z i j)) (hk : lk st.h k = some (.box cs E)) (hy : ev st y = some u) (hs : u.sc = true)
    (ht : tyOk P T false 1 = true) (hle : i * z + j < cs.length) : StepM P C (.store T x y) ty none st (putH st k (.box (setAt cs (i * z + j) [u]) E)) := fun g a w pos af gd hr K hK => by
  have hu := ev_rv hr hy
  obtain ⟨w', h1, h2⟩ := M_store_cells hr hx hk ht (v := a.eval y) (vs := [a.eval y]) (ys := [u]) (p := .nilIface) (sc_cells hu hs).1 rfl (fun q c v hc hv => by
    cases q with
    | zero => simp at hc hv; subst hc; subst hv; exact hu
    | succ q => simp at hc) (by simpa using (sc_cells hu hs).2) rfl (by simp; omega)
  simp only [wp1, execOp, Sem.run_bind, h1, Result.andThen_ok, Sem.run_pure, upon1]
  exact hK _ _ _ h2
theorem M_store_agg {T : TypeId} {x y : Operand} {k z i j n : Nat} {cs ys : List AV} {E : TypeId} (hx : ev st x = some (.ptr k z i j)) (hk : lk st.h k = some (.box cs E)) (hy : ev st y = some (.agg ys)) (hs : scL ys = true)
    (ht : tyOk P T true n = true) (hn : ys.length = n) (hle : i * z + j + ys.length ≤ cs.length) : StepM P C (.store T x y) ty none st (putH st k (.box (setAt cs (i * z + j) ys) E)) := fun g a w pos af gd hr K hK => by
  obtain ⟨vs, e, hl, hv⟩ := inv_agg (ev_rv hr hy)
  obtain ⟨w', h1, h2⟩ := M_store_cells hr hx hk ht (v := a.eval y) (vs := vs) (ys := ys) (p := .nilIface) (by rw [e]; rfl) hl hv (fun u hu => by
    obtain ⟨q, hq⟩ := List.mem_iff_getElem?.1 hu
    have hlt : q < ys.length := by rw [← hl]; exact (List.getElem?_eq_some_iff.1 hq).1
    exact (sc_cells (hv q _ u (List.getElem?_eq_getElem hlt) hq) (scL_get hs (List.getElem?_eq_getElem hlt))).2) hn hle
  simp only [wp1, execOp, Sem.run_bind, h1, Result.andThen_ok, Sem.run_pure, upon1]
  exact hK _ _ _ h2
end
end Go.Rse
