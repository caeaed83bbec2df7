/-
  Steps that read memory or make it.
-/
import Derived.Test.YteecbmgddacioaaRse2
namespace Go.Rse
open Go Go.RowKit
set_option linter.unusedVariables false

/-- Type t: a struct or an array ('agg') or not; its cells. -/
def tyOk (P : Program) (t : TypeId) (agg : Bool) (n : Nat) : Bool :=
  (P.info? t).any (·.size == n) && (match P.underlying t with | some (.struct _) | some (.array _ _) => agg | some _ => !agg | none => false)
theorem run_isAgg {P : Program} {t : TypeId} {agg : Bool} {n : Nat} (h : tyOk P t agg n = true) (w : World) : (isAgg t).run P w = .ok agg w := by
  simp only [tyOk, Bool.and_eq_true] at h
  obtain ⟨_, h2⟩ := h
  cases hu : P.underlying t with
  | none => simp [hu] at h2
  | some d =>
    simp only [hu] at h2
    cases d <;> simp_all [isAgg, run_underlying hu]
theorem run_sizeOf {P : Program} {t : TypeId} {agg : Bool} {n : Nat} (h : tyOk P t agg n = true) (w : World) : (sizeOf t).run P w = .ok n w := by
  simp only [tyOk, Bool.and_eq_true] at h
  obtain ⟨h1, _⟩ := h
  cases hi : P.info? t with
  | none => simp [hi] at h1
  | some i => simp [hi] at h1; simp [sizeOf, typeInfo, hi, h1]

def fldOk (P : Program) (s : TypeId) (f off : Nat) : Bool :=
  match P.underlying s with
  | some (.struct fs) => match fs[f]? with
    | some fd => fd.offset == off && (P.info? fd.type).any (·.size != 0)
    | none => false
  | _ => false

theorem add_plain' (b o j : Nat) : (⟨b, o, none⟩ : Addr).add j = ⟨b, o + j, none⟩ := by
  unfold Addr.add; split
  · rename_i h; subst h; rfl
  · rfl

theorem run_fieldAt {P : Program} {s : TypeId} {f off : Nat} (h : fldOk P s f off = true) (b o : Nat) (w : World) :
    (Instr.fieldAt s (.pointer (some ⟨b, o, none⟩)) f).run P w = .ok (.pointer (some ⟨b, o + off, none⟩)) w := by
  unfold fldOk at h
  split at h <;> try (simp at h; done)
  rename_i fs hu
  split at h <;> try (simp at h; done)
  rename_i fd hf
  simp only [Bool.and_eq_true, beq_iff_eq] at h
  obtain ⟨h1, h2⟩ := h
  cases hi : P.info? fd.type with
  | none => simp [hi] at h2
  | some i =>
    simp [hi] at h2
    simp [Instr.fieldAt, run_underlying hu, hf, Instr.sureAddr, fieldPlace, sizeOf, typeInfo, hi, h2, add_plain', h1]

section
variable {P : Program} {C : Ctx} {st : St} {ty : TypeId}

theorem P_fieldAddr_ptr {s : TypeId} {x : Operand} {f off k z i j : Nat} (hx : ev st x = some (.ptr k z i j)) (hf : fldOk P s f off = true) :
    Pur P C (.fieldAddr s x f) ty st (.ptr k z i (j + off)) := fun g a w dst pos af gd hr => by
  obtain ⟨b, hb, e⟩ := inv_ptr (ev_rv hr hx)
  refine ⟨.pointer (some ⟨b, i * z + (j + off), none⟩), ?_, .ptr k z i (j + off) b hb⟩
  simp [execOp, e, run_fieldAt hf, Nat.add_assoc]
theorem P_fieldAddr_ept {α : Type} {enc : α → List AV} {z : α} {s : TypeId} {x : Operand} {f off j : Nat} (hx : ev st x = some (.ept enc z j)) (hf : fldOk P s f off = true) :
    Pur P C (.fieldAddr s x f) ty st (.ept enc z (j + off)) := fun g a w dst pos af gd hr => by
  obtain ⟨b, o, vs, e, h1, h2⟩ := inv_ept (ev_rv hr hx)
  refine ⟨.pointer (some ⟨b, o + (j + off), none⟩), ?_, .ept enc z (j + off) b o vs h1 h2⟩
  simp [execOp, e, run_fieldAt hf, Nat.add_assoc]

/-! loads -/
theorem box_cell {g : Gh} {w : World} {k : Nat} {cs : List AV} {E : TypeId} (h : BlkSat C g w k (.box cs E)) :
    ∃ (b : Nat) (vs : Array Value), g.ρ k = .pointer (some ⟨b, 0, none⟩) ∧ vs.size = cs.length ∧ (∀ j, w.cell? ⟨b, j, none⟩ = vs[j]?) ∧ ∀ (j : Nat) c v, cs[j]? = some c → vs[j]? = some v → RV g.I g.ρ c v := by
  obtain ⟨b, vs, h1, h2, h3, h4, h5, h6⟩ := h
  exact ⟨b, vs, h1, h5, fun j => by simp [World.cell?, h4], h6⟩

theorem run_loadVar_sc {P : Program} {t : TypeId} (h : tyOk P t false 1 = true) {a : Addr} {w : World} {v : Value} (hc : w.cell? a = some v) : (loadVar t a).run P w = .ok v w := by
  simp [loadVar, run_isAgg h, hc]
theorem run_loadVar_agg {P : Program} {t : TypeId} {n : Nat} (h : tyOk P t true n = true) {b o : Nat} {w : World} {vs : List Value} (hn : vs.length = n) (hc : ∀ j v, vs[j]? = some v → w.cell? ⟨b, o + j, none⟩ = some v) :
    (loadVar t ⟨b, o, none⟩).run P w = .ok (.agg vs.toArray) w := by
  subst hn
  have := run_loadCells_list (P := P) (w := w) ⟨b, o, none⟩ vs (fun j v hv => by rw [add_plain']; exact hc j v hv)
  simp [loadVar, run_isAgg h, run_sizeOf h, this]

theorem P_load_box {t : TypeId} {x : Operand} {k z i j : Nat} {cs : List AV} {E : TypeId} {y : AV} (hx : ev st x = some (.ptr k z i j)) (hk : lk st.h k = some (.box cs E)) (hy : cs[i * z + j]? = some y)
    (ht : tyOk P t false 1 = true) : Pur P C (.load t x) ty st y := fun g a w dst pos af gd hr => by
  obtain ⟨b, hb, e⟩ := inv_ptr (ev_rv hr hx)
  obtain ⟨b', vs, h1, h2, h3, h4⟩ := box_cell (hr.sat.blk k _ hk)
  have : b' = b := by rw [h1] at hb; simpa [blkOf] using hb
  subst this
  have hlt : i * z + j < vs.size := by rw [h2]; exact (List.getElem?_eq_some_iff.1 hy).1
  have hv : vs[i * z + j]? = some vs[i * z + j] := Array.getElem?_eq_getElem hlt
  refine ⟨_, ?_, h4 _ y _ hy hv⟩
  simp only [execOp, e, Sem.run_bind, Instr.loadAt, Instr.sureAddr, Sem.run_pure, Result.andThen_ok, run_loadVar_sc ht ((h3 _).trans hv)]

theorem P_load_box_all {t : TypeId} {x : Operand} {k z i n : Nat} {cs : List AV} {E : TypeId} (hx : ev st x = some (.ptr k z i 0)) (hk : lk st.h k = some (.box cs E)) (hi : i * z = 0) (hn : cs.length = n)
    (ht : tyOk P t true n = true) : Pur P C (.load t x) ty st (.agg cs) := fun g a w dst pos af gd hr => by
  obtain ⟨b, hb, e⟩ := inv_ptr (ev_rv hr hx)
  obtain ⟨b', vs, h1, h2, h3, h4⟩ := box_cell (hr.sat.blk k _ hk)
  have : b' = b := by rw [h1] at hb; simpa [blkOf] using hb
  subst this
  refine ⟨.agg vs.toList.toArray, ?_, .agg cs vs.toList (by simpa using h2) (fun j c v hc hv => h4 j c v hc (by simpa using hv))⟩
  have := run_loadVar_agg (P := P) (t := t) ht (b := b') (o := 0) (w := w) (vs := vs.toList) (by simp [h2, hn]) (fun j v hv => by rw [Nat.zero_add, h3]; simpa using hv)
  simp only [execOp, e, hi, Nat.zero_add, Sem.run_bind, Instr.loadAt, Instr.sureAddr, Sem.run_pure, Result.andThen_ok, this]

theorem P_load_box_part {t : TypeId} {x : Operand} {k z i j n : Nat} {cs ys : List AV} {E : TypeId} (hx : ev st x = some (.ptr k z i j)) (hk : lk st.h k = some (.box cs E)) (hy : (cs.drop (i * z + j)).take n = ys) (hn : ys.length = n)
    (ht : tyOk P t true n = true) : Pur P C (.load t x) ty st (.agg ys) := fun g a w dst pos af gd hr => by
  obtain ⟨b, hb, e⟩ := inv_ptr (ev_rv hr hx)
  obtain ⟨b', vs, h1, h2, h3, h4⟩ := box_cell (hr.sat.blk k _ hk)
  have : b' = b := by rw [h1] at hb; simpa [blkOf] using hb
  subst this
  subst hy
  have hlen : ((vs.toList.drop (i * z + j)).take n).length = n := by simp [h2] at hn ⊢; omega
  refine ⟨.agg ((vs.toList.drop (i * z + j)).take n).toArray, ?_, .agg _ _ (by rw [hlen, hn]) (fun q c v hc hv => ?_)⟩
  · have := run_loadVar_agg (P := P) (t := t) ht (b := b') (o := i * z + j) (w := w) (vs := (vs.toList.drop (i * z + j)).take n) hlen (fun q v hv => by
      rw [h3]
      rw [List.getElem?_take] at hv
      split at hv
      · rw [List.getElem?_drop] at hv; simpa using hv
      · simp at hv)
    simp only [execOp, e, Sem.run_bind, Instr.loadAt, Instr.sureAddr, Sem.run_pure, Result.andThen_ok, this]
  · rw [List.getElem?_take] at hc hv
    split at hc
    · rename_i hq; rw [if_pos hq] at hv
      rw [List.getElem?_drop] at hc hv
      exact h4 _ c v hc (by simpa using hv)
    · simp at hc

theorem RV.forget' {I : Im} {ρ ρ' : Nat → Value} {x : AV} {v : Value} (h : RV I ρ x v) (hf : ∀ k, x.fr k = true) : RV I ρ' x v := by
  induction h with
  | int k n => exact .int k n
  | bool b => exact .bool b
  | str s => exact .str s
  | nils => exact .nils
  | nilf => exact .nilf
  | sl enc l A b o s c vs hA hc hm hs hI hv ih => exact .sl enc l A b o s c vs hA hc hm hs hI hv
  | own k' A n c h => exact absurd (hf k') (by simp [AV.fr])
  | ptr k' s i j b h => exact absurd (hf k') (by simp [AV.fr])
  | sub k' s i m c A h => exact absurd (hf k') (by simp [AV.fr])
  | ept enc x j b o vs hI hv ih => exact .ept enc x j b o vs hI hv
  | yv l => exact .yv l
  | fn f caps vs hl hv ih => exact .fn f caps vs hl (fun j c v hc hvv => ih j c v hc hvv (fun k => AV.frL_get (by simpa [AV.fr] using hf k) hc))
  | agg cs vs hl hv ih => exact .agg cs vs hl (fun j c v hc hvv => ih j c v hc hvv (fun k => AV.frL_get (by simpa [AV.fr] using hf k) hc))
  | tup cs vs hl hv ih => exact .tup cs vs hl (fun j c v hc hvv => ih j c v hc hvv (fun k => AV.frL_get (by simpa [AV.fr] using hf k) hc))
  | ifb b x v h ih => exact .ifb b x v (fun hb => ih hb (fun k => by simpa [AV.fr] using hf k))
  | any v => exact .any v

/-- No name occurs. -/
def AV.nm : AV → Bool
  | .own _ => false
  | .ptr _ _ _ _ => false
  | .sub _ _ _ _ => false
  | .fn _ cs => nmL cs
  | .agg cs => nmL cs
  | .tup cs => nmL cs
  | .ifb _ x => x.nm
  | _ => true
where nmL : List AV → Bool
  | [] => true
  | x :: r => x.nm && nmL r

theorem AV.nmL_get : ∀ {cs : List AV}, AV.nm.nmL cs = true → ∀ {j : Nat} {c : AV}, cs[j]? = some c → c.nm = true
  | [], _, _, _, h => by simp at h
  | x :: r, h, 0, c, e => by
    simp [AV.nm.nmL] at h; simp at e; exact e ▸ h.1
  | x :: r, h, j + 1, c, e => by
    simp [AV.nm.nmL] at h; exact AV.nmL_get h.2 (by simpa using e)

theorem RV.forget {I : Im} {ρ ρ' : Nat → Value} {x : AV} {v : Value} (h : RV I ρ x v) (hf : x.nm = true) : RV I ρ' x v := by
  induction h with
  | int k n => exact .int k n
  | bool b => exact .bool b
  | str s => exact .str s
  | nils => exact .nils
  | nilf => exact .nilf
  | sl enc l A b o s c vs hA hc hm hs hI hv ih => exact .sl enc l A b o s c vs hA hc hm hs hI hv
  | own k' A n c h => simp [AV.nm] at hf
  | ptr k' s i j b h => simp [AV.nm] at hf
  | sub k' s i m c A h => simp [AV.nm] at hf
  | ept enc x j b o vs hI hv ih => exact .ept enc x j b o vs hI hv
  | yv l => exact .yv l
  | fn f caps vs hl hv ih => exact .fn f caps vs hl (fun j c v hc hvv => ih j c v hc hvv (AV.nmL_get (by simpa [AV.nm] using hf) hc))
  | agg cs vs hl hv ih => exact .agg cs vs hl (fun j c v hc hvv => ih j c v hc hvv (AV.nmL_get (by simpa [AV.nm] using hf) hc))
  | tup cs vs hl hv ih => exact .tup cs vs hl (fun j c v hc hvv => ih j c v hc hvv (AV.nmL_get (by simpa [AV.nm] using hf) hc))
  | ifb b x v h ih => exact .ifb b x v (fun hb => ih hb (by simpa [AV.nm] using hf))
  | any v => exact .any v

/-- What is read out of memory that is known for good bears no names: the cells need not be looked through. -/
theorem P_load_ept {α : Type} {enc : α → List AV} {u : α} {t : TypeId} {x : Operand} {j : Nat} {y : AV} (hx : ev st x = some (.ept enc u j)) (hy : (enc u)[j]? = some y) (hn : y.nm = true)
    (ht : tyOk P t false 1 = true) : Pur P C (.load t x) ty st y := fun g a w dst pos af gd hr => by
  obtain ⟨b, o, vs, e, h1, h2⟩ := inv_ept (ev_rv hr hx)
  have hlt : j < (enc u).length := (List.getElem?_eq_some_iff.1 hy).1
  refine ⟨vs j, ?_, (h2 j y hy).forget hn⟩
  simp only [execOp, e, Sem.run_bind, Instr.loadAt, Instr.sureAddr, Sem.run_pure, Result.andThen_ok, run_loadVar_sc ht (hr.sat.im _ _ _ (h1 j hlt)).1]

theorem P_load_ept_all {α : Type} {enc : α → List AV} {u : α} {t : TypeId} {x : Operand} {n : Nat} (hx : ev st x = some (.ept enc u 0)) (hl : (enc u).length = n) (hn : AV.nm.nmL (enc u) = true)
    (ht : tyOk P t true n = true) : Pur P C (.load t x) ty st (.agg (enc u)) := fun g a w dst pos af gd hr => by
  obtain ⟨b, o, vs, e, h1, h2⟩ := inv_ept (ev_rv hr hx)
  have hlen : ((List.range n).map vs).length = n := by simp
  refine ⟨.agg ((List.range n).map vs).toArray, ?_, .agg _ _ (by rw [hlen, hl]) (fun j c v hc hv => ?_)⟩
  · have := run_loadVar_agg (P := P) (t := t) ht (b := b) (o := o) (w := w) (vs := (List.range n).map vs) hlen (fun j v hv => by
      rw [List.getElem?_map] at hv
      by_cases hj : j < n
      · simp [List.getElem?_range hj] at hv
        subst hv
        exact (hr.sat.im _ _ _ (h1 j (by omega))).1
      · simp [List.getElem?_eq_none (l := List.range n) (i := j) (by simp; omega)] at hv)
    simp only [execOp, e, Nat.add_zero, Sem.run_bind, Instr.loadAt, Instr.sureAddr, Sem.run_pure, Result.andThen_ok, this]
  · have hj : j < n := by rw [← hl]; exact (List.getElem?_eq_some_iff.1 hc).1
    rw [List.getElem?_map, List.getElem?_range hj] at hv
    simp at hv; subst hv
    exact (h2 j c hc).forget (AV.nmL_get hn hc)

/-! slices: length, elements -/
theorem inv_sl {I : Im} {ρ : Nat → Value} {α : Type} {enc : α → List AV} {l : List α} {v : Value} (h : RV I ρ (.sl enc l) v) : ∃ (A : Option Addr) (b o s c : Nat) (vs : Nat → Nat → Value), v = .slice A l.length c ∧
    (l ≠ [] → A = some ⟨b, o, none⟩) ∧ l.length ≤ c ∧ c ≤ maxLen ∧ (∀ (i : Nat) (x : α), l[i]? = some x → (enc x).length = s) ∧
    (∀ (i : Nat) (x : α) (j : Nat), l[i]? = some x → j < s → I b (o + i * s + j) = some (vs i j)) ∧ ∀ (i : Nat) (x : α) (j : Nat) (cell : AV), l[i]? = some x → (enc x)[j]? = some cell → RV I noNames cell (vs i j) := by
  cases h
  exact ⟨_, _, _, _, _, _, rfl, by assumption, by assumption, by assumption, by assumption, by assumption, by assumption⟩
theorem row_val {g : Gh} {w : World} {k : Nat} {α : Type} {enc : α → List AV} {l : List α} {E : TypeId} {s : Nat} (h : BlkSat C g w k (.row enc l E s)) : ∃ A c, g.ρ k = .slice A l.length c ∧ l.length ≤ maxLen := by
  obtain ⟨xs, h1, _⟩ := h
  rcases h1.2 with ⟨h, h0⟩ | ⟨b, cap, cur, h, _, _, hc, hm, _⟩
  · exact ⟨none, 0, by rw [h, h0], by omega⟩
  · exact ⟨_, _, h, by omega⟩

def slOk (P : Program) (t E : TypeId) : Bool := match P.underlying t with | some (.slice e) => e == E | _ => false
theorem slOk_under {P : Program} {t E : TypeId} (h : slOk P t E = true) : P.underlying t = some (.slice E) := by
  unfold slOk at h
  split at h
  · rename_i e hu; simp at h; subst h; exact hu
  · simp at h

theorem run_len_slice {P : Program} {t E ty : TypeId} (h : slOk P t E = true) (A : Option Addr) (n c : Nat) (w : World) : (Builtin.len_ #[t] ty #[.slice A n c]).run P w = .ok (.int .i64 n) w := by
  simp [Builtin.len_, run_underlying (slOk_under h), goInt]

theorem run_lenOp {a : Act} {w : World} {dst : Option Tmp} {x : Operand} {t E : TypeId} {pos : String} {af : Array Edge} {gd : Option (Nat × Bool)} {A : Option Addr} {n c : Nat} (h : slOk P t E = true) (e : a.eval x = .slice A n c) :
    (execOp a.eval { dst := dst, op := .call { callee := .builtin .len, args := #[x], argTypes := #[t] }, type := ty, pos := pos, after := af, guard := gd }).run P w = .ok (.value (.int .i64 n)) w := by
  simp [execOp, resolve, invoke, builtin, e, run_len_slice h]

theorem P_len_sl {α : Type} {enc : α → List AV} {l : List α} {x : Operand} {t E : TypeId} (hx : ev st x = some (.sl enc l)) (h : slOk P t E = true) :
    Pur P C (.call { callee := .builtin .len, args := #[x], argTypes := #[t] }) ty st (.int .i64 l.length) := fun g a w dst pos af gd hr => by
  obtain ⟨A, b, o, s, c, vs, e, _⟩ := inv_sl (ev_rv hr hx)
  exact ⟨_, run_lenOp h e, .int _ _⟩
theorem P_len_own {α : Type} {enc : α → List AV} {l : List α} {x : Operand} {t E E' : TypeId} {k s : Nat} (hx : ev st x = some (.own k)) (hk : lk st.h k = some (.row enc l E' s)) (h : slOk P t E = true) :
    Pur P C (.call { callee := .builtin .len, args := #[x], argTypes := #[t] }) ty st (.int .i64 l.length) := fun g a w dst pos af gd hr => by
  obtain ⟨A, c, e, _⟩ := row_val (hr.sat.blk k _ hk)
  rw [inv_own (ev_rv hr hx)] at e
  exact ⟨_, run_lenOp h e, .int _ _⟩
theorem P_len_nils {x : Operand} {t E : TypeId} (hx : ev st x = some .nils) (h : slOk P t E = true) :
    Pur P C (.call { callee := .builtin .len, args := #[x], argTypes := #[t] }) ty st (.int .i64 0) := fun g a w dst pos af gd hr =>
  ⟨_, run_lenOp h (inv_nils (ev_rv hr hx)), .int _ _⟩

theorem run_indexOp {a : Act} {w : World} {dst : Option Tmp} {x y : Operand} {t E : TypeId} {ag : Bool} {pos : String} {af : Array Edge} {gd : Option (Nat × Bool)} {b o n c s : Nat} {kk : IntKind} {i : Int} (h : slOk P t E = true) (hs : tyOk P E ag s = true)
    (ex : a.eval x = .slice (some ⟨b, o, none⟩) n c) (ey : a.eval y = .int kk i) (h0 : 0 ≤ i) (h1 : i < n) :
    (execOp a.eval { dst := dst, op := .indexAddr t x y, type := ty, pos := pos, after := af, guard := gd }).run P w = .ok (.value (.pointer (some ⟨b, o + i.toNat * s, none⟩))) w := by
  simp [execOp, Instr.indexAt, asIntOf, ex, ey, run_underlying (slOk_under h), h0, h1, run_sizeOf hs, add_plain']

theorem P_index_sl {α : Type} {enc : α → List AV} {l : List α} {u : α} {x y : Operand} {t E : TypeId} {ag : Bool} {s : Nat} {kk : IntKind} {i : Int} (hx : ev st x = some (.sl enc l)) (hy : ev st y = some (.int kk i))
    (h : slOk P t E = true) (hs : tyOk P E ag s = true) (he : ∀ z, (enc z).length = s) (h0 : 0 ≤ i) (hu : l[i.toNat]? = some u) :
    Pur P C (.indexAddr t x y) ty st (.ept enc u 0) := fun g a w dst pos af gd hr => by
  obtain ⟨A, b, o, s', c, vs, e, hA, _, _, h1, h2, h3⟩ := inv_sl (ev_rv hr hx)
  have hlt : i.toNat < l.length := (List.getElem?_eq_some_iff.1 hu).1
  have hne : l ≠ [] := by intro e; subst e; simp at hlt
  rw [hA hne] at e
  have hs' : s' = s := (h1 _ _ hu).symm.trans (he u)
  subst hs'
  refine ⟨_, run_indexOp h hs e (inv_int (ev_rv hr hy)) h0 (by omega), ?_⟩
  exact .ept enc u 0 b (o + i.toNat * s') (vs i.toNat) (fun j hj => h2 _ u j hu (by rw [he u] at hj; exact hj)) (fun j cell hc => h3 _ u j cell hu hc)

theorem P_index_own {α : Type} {enc : α → List AV} {l : List α} {x y : Operand} {t E E' : TypeId} {ag : Bool} {k s : Nat} {kk : IntKind} {i : Int} (hx : ev st x = some (.own k)) (hk : lk st.h k = some (.row enc l E' s)) (hy : ev st y = some (.int kk i))
    (h : slOk P t E = true) (hs : tyOk P E ag s = true) (h0 : 0 ≤ i) (h1 : i < l.length) :
    Pur P C (.indexAddr t x y) ty st (.ptr k s i.toNat 0) := fun g a w dst pos af gd hr => by
  obtain ⟨xs, hw, _⟩ := hr.sat.blk k _ hk
  have ek := inv_own (ev_rv hr hx)
  rcases hw.2 with ⟨_, e0⟩ | ⟨b, cap, cur, hv, _⟩
  · omega
  · rw [hv] at ek
    refine ⟨_, run_indexOp h hs ek.symm (inv_int (ev_rv hr hy)) h0 h1, ?_⟩
    have := RV.ptr (I := g.I) (ρ := g.ρ) k s i.toNat 0 b (by rw [hv]; rfl)
    simpa using this

theorem P_load_row {α : Type} {enc : α → List AV} {l : List α} {u : α} {t : TypeId} {x : Operand} {k s i j : Nat} {E : TypeId} {y : AV} (hx : ev st x = some (.ptr k s i j)) (hk : lk st.h k = some (.row enc l E s)) (hu : l[i]? = some u) (hy : (enc u)[j]? = some y) (hn : y.nm = true)
    (ht : tyOk P t false 1 = true) : Pur P C (.load t x) ty st y := fun g a w dst pos af gd hr => by
  obtain ⟨b, hb, e⟩ := inv_ptr (ev_rv hr hx)
  obtain ⟨xs, hw, h1, h2, h3⟩ := hr.sat.blk k _ hk
  rcases hw.2 with ⟨hv, _⟩ | ⟨b', cap, cur, hv, _, hh, hnc, _, hcur, htk⟩
  · rw [hv] at hb; simp [blkOf] at hb
  · have : b' = b := by rw [hv] at hb; simpa [blkOf] using hb
    subst this
    have hil : i < l.length := (List.getElem?_eq_some_iff.1 hu).1
    have hjs : j < s := by rw [← h1 i u hu]; exact (List.getElem?_eq_some_iff.1 hy).1
    have hlt : i * s + j < l.length * s := by
      have h2 : (i + 1) * s ≤ l.length * s := Nat.mul_le_mul_right s hil
      have h3 : (i + 1) * s = i * s + s := Nat.succ_mul i s
      omega
    have hxl : i * s + j < xs.length := by rw [hw.1]; exact hlt
    have hc : w.cell? ⟨b', i * s + j, none⟩ = some xs[i * s + j] := by
      simp only [World.cell?, hh]
      have h0 : cur.toList[i * s + j]? = some xs[i * s + j] := by
        rw [← List.getElem?_eq_getElem hxl]
        conv => rhs; rw [← htk]
        rw [List.getElem?_take, if_pos hlt]
      simpa using h0
    refine ⟨_, ?_, (h2 i u j y _ hu hy (List.getElem?_eq_getElem hxl)).forget hn⟩
    simp only [execOp, e, Sem.run_bind, Instr.loadAt, Instr.sureAddr, Sem.run_pure, Result.andThen_ok, run_loadVar_sc ht hc]
end
end Go.Rse
