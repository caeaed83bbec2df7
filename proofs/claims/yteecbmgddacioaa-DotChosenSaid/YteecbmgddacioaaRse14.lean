/-
  A range over an iterator.
-/
import Derived.Test.YteecbmgddacioaaRse13
import Derived.RangeFuncNested
namespace Go.Rse
open Go Go.RowKit
set_option linter.unusedVariables false

/-- The context of a round. -/
abbrev Ctx.rnd (C : Ctx) (l : Nat) (g : Gh) (w : World) : Ctx := ⟨some l, C.n, C.d, C.ds, C.yB, C.Y, g, w⟩

theorem Ext.trans {C : Ctx} {l : Nat} {g g' : Gh} {w w' : World} (h : Ext C g w) (h' : Ext (C.rnd l g w) g' w') : Ext C g' w' :=
  ⟨Im.le_trans h.I h'.I, h'.os.trans h.os, h'.tape.trans h.tape, h'.output.trans h.output, Nat.le_trans h.size h'.size, fun b hb hn ho => by
    obtain ⟨h1, h2⟩ := h.keep b hb hn ho
    have hlt := Nat.lt_of_lt_of_le hb h.size
    obtain ⟨h3, h4⟩ := h'.keep b hlt (fun hk => by
      rcases hk with hk | ⟨n, hk⟩
      · exact absurd hk (Nat.not_le.2 hlt)
      · exact hn (.inr ⟨n, by rw [← h2]; exact hk⟩)) (fun ⟨y, n, hy, hm⟩ => ho ⟨y, n, hy, by rw [← h2]; exact hm⟩)
    exact ⟨h3.trans h1, h4.trans h2⟩,
   fun b y n hb hy => by
    obtain ⟨n', hn'⟩ := h'.own b y n (Nat.lt_of_lt_of_le hb h.size) hy
    exact h.own b y n' hb hn'⟩

theorem BlkSat.into {C : Ctx} {l : Nat} {g g0 : Gh} {w w0 : World} {k : Nat} {B : Blk} (h : BlkSat C g w k B) (hO : ∀ b n, g.O b = some (C.d, n) → (C.rnd l g0 w0).okb b) (hs : C.yB ≤ C.w0.heap.size → C.yB ≤ w0.heap.size) : BlkSat (C.rnd l g0 w0) g w k B := by
  cases B with
  | box cs E => obtain ⟨b, vs, h1, h2, h3, h4⟩ := h; exact ⟨b, vs, h1, h2, hO b k h2, h4⟩
  | row enc l E s => obtain ⟨xs, h1, h2, h3, h4⟩ := h; exact ⟨xs, h1, h2, h3, fun b hb => ⟨(h4 b hb).1, hO b k (h4 b hb).1⟩⟩
  | hold vs cs => exact h
  | obj b o => obtain ⟨h1, h2, h3⟩ := h; exact ⟨h1, h2, hO b k h2⟩
  | yld j on => obtain ⟨h1, h2, h3, h4⟩ := h; exact ⟨h1, h2, hs h3, h4⟩
  | dead => trivial

theorem BlkSat.outof {C : Ctx} {l : Nat} {g g0 : Gh} {w w0 : World} {k : Nat} {B : Blk} (h : BlkSat (C.rnd l g0 w0) g w k B) (hO : ∀ b n, g.O b = some (C.d, n) → C.okb b) (hs : C.yB ≤ w0.heap.size → C.yB ≤ C.w0.heap.size) : BlkSat C g w k B := by
  cases B with
  | box cs E => obtain ⟨b, vs, h1, h2, h3, h4⟩ := h; exact ⟨b, vs, h1, h2, hO b k h2, h4⟩
  | row enc l E s => obtain ⟨xs, h1, h2, h3, h4⟩ := h; exact ⟨xs, h1, h2, h3, fun b hb => ⟨(h4 b hb).1, hO b k (h4 b hb).1⟩⟩
  | hold vs cs => exact h
  | obj b o => obtain ⟨h1, h2, h3⟩ := h; exact ⟨h1, h2, hO b k h2⟩
  | yld j on => obtain ⟨h1, h2, h3, h4⟩ := h; exact ⟨h1, h2, hs h3, h4⟩
  | dead => trivial

theorem Ext.okb {C : Ctx} {g : Gh} {w : World} (h : Ext C g w) : ∀ b n, g.O b = some (C.d, n) → C.okb b := fun b n hO => by
  rcases Nat.lt_or_ge b C.w0.heap.size with hl | hl
  · obtain ⟨n', hn'⟩ := h.own b C.d n hl hO
    exact .inr ⟨n', hn'⟩
  · exact .inl hl

/-- Outer slots and what they are. -/
def zipT : List Nat → List AV → List (Nat × AV)
  | s :: r, x :: q => (s, x) :: zipT r q
  | _, _ => []
theorem zipT_lk : ∀ {sl : List Nat} {xs : List AV} {t : Nat} {x : AV}, lk (zipT sl xs) t = some x → ∃ j : Nat, sl[j]? = some t ∧ xs[j]? = some x
  | [], _, _, _, h => by simp [zipT, lk] at h
  | _ :: _, [], _, _, h => by simp [zipT, lk] at h
  | s :: r, y :: q, t, x, h => by
    simp only [zipT, lk_cons] at h
    cases hb : s.beq t <;> simp [hb] at h
    · obtain ⟨j, h1, h2⟩ := zipT_lk h
      exact ⟨j + 1, by simpa using h1, by simpa using h2⟩
    · have : s = t := by simpa using hb
      exact ⟨0, by simp [this], by simp [h]⟩

/-- What is asked at the end of a round's body. -/
def RndQ (P : Program) (C : Ctx) (l : Nat) (g : Gh) (w : World) (busy : Obj) (lN hN : Nat) (vs : List Value) (sl : List Nat) (nxt : List AV × List (Nat × Blk)) (Jn : Prop) (Q : Exit → St → Prop) (e : Exit) (st : St) : Prop :=
  ∃ (tv : List AV) (hs : List (Nat × Blk)), Imp (C.rnd l g w) st ⟨[], (hN, .hold vs tv) :: (lN, .obj l busy) :: hs⟩ ∧
    match e with
    | .normal => (tv, hs) = nxt ∧ Jn
    | .ret => Q .ret ⟨zipT sl tv, (lN, .dead) :: (hN, .dead) :: hs⟩
    | .exit id => Q (.exit id) ⟨zipT sl tv, (lN, .dead) :: (hN, .dead) :: hs⟩
    | _ => False

/-- The first of the parameters get the arguments. -/
def setTs : List Tmp → List AV → List (Nat × AV) → List (Nat × AV)
  | t :: r, x :: q, s => setTs r q ((t, x) :: s)
  | _, _, s => s
theorem setTs_rv {I : Im} {ρ : Nat → Value} : ∀ {ps : List Tmp} {as : List AV} {vs : List Value} {s : List (Nat × AV)} {tm : Array Value}, ps.length = as.length → RVL I ρ as vs → (∀ p ∈ ps, p < tm.size) → (∀ t x, lk s t = some x → RV I ρ x (tm.getD t undef)) →
    ∀ t x, lk (setTs ps as s) t = some x → RV I ρ x (((ps.zip vs).foldl (fun tm (t, a) => tm.setIfInBounds t a) tm).getD t undef)
  | [], [], vs, s, tm, _, _, _, h => by simpa [setTs] using h
  | p :: r, y :: q, vs, s, tm, hl, hv, hp, h => by
    obtain ⟨h1, h2⟩ := hv
    cases vs with
    | nil => simp at h1
    | cons v us =>
      simp only [setTs, List.zip_cons_cons, List.foldl_cons]
      refine setTs_rv (by simpa using hl) ⟨by simpa using h1, fun j c u hc hu => h2 (j + 1) c u (by simpa using hc) (by simpa using hu)⟩ (fun p' hp' => by simpa using hp p' (by simp [hp'])) (fun t x hx => ?_)
      simp only [lk_cons] at hx
      have hlt := hp p (by simp)
      simp only [Array.getD_eq_getD_getElem?, Array.getElem?_setIfInBounds]
      by_cases e : p = t
      · subst e
        simp at hx
        subst hx
        simp [hlt]
        exact h2 0 _ v (by simp) (by simp)
      · have hb : Nat.beq p t = false := beqF.2 e
        rw [hb] at hx
        simp only [cond_false] at hx
        rw [if_neg e]
        simpa [Array.getD_eq_getD_getElem?] using h t x hx
  | [], _ :: _, _, _, _, hl, _, _, _ => by simp at hl
  | _ :: _, [], _, _, _, hl, _, _, _ => by simp at hl
theorem foldl_size : ∀ (l : List (Tmp × Value)) (tm : Array Value), (l.foldl (fun tm (t, a) => tm.setIfInBounds t a) tm).size = tm.size
  | [], tm => rfl
  | (t, a) :: r, tm => by simp only [List.foldl_cons]; rw [foldl_size r]; simp

/-- The loop's record lies in a block of one's own: written. -/
theorem Rel.putObj {C : Ctx} {st : St} {g : Gh} {a : Act} {w : World} (h : Rel C st g a w) {k b : Nat} {o o' : Obj} (hk : lk st.h k = some (.obj b o)) : Rel C (putH st k (.obj b o')) g a (w.putObj b o') := by
  obtain ⟨h1, h2, h3⟩ := h.sat.blk k _ hk
  refine h.modify h2 h3 ⟨rfl, rfl, rfl, by simp, fun j hj hne => World.putObj_heap_other (by simpa using hne)⟩ ⟨World.putObj_heap_same (heap_lt h1), h2, h3⟩

/-- Back from a round. -/
theorem Rel.outof {C : Ctx} {l lN hN : Nat} {o : Obj} {vs : List Value} {tv : List AV} {sl : List Nat} {hs : List (Nat × Blk)} {st0 : St} {g g2 : Gh} {a1 a2 : Act} {w w2 : World} (h0 : Rel C st0 g a1 w)
    (h : Rel (C.rnd l g w) ⟨[], (hN, .hold vs tv) :: (lN, .obj l o) :: hs⟩ g2 a2 w2) (hne : hN ≠ lN) (hvs : vs = sl.map fun t => a1.tmps.getD t undef) (hyB : C.yB ≤ C.w0.heap.size) : Rel C ⟨zipT sl tv, (lN, .obj l o) :: (hN, .dead) :: hs⟩ g2 a1 w2 := by
  have hext : Ext C g2 w2 := h0.ext.trans h.ext
  refine ⟨h0.size, ?_, fun t x hx => ?_, ⟨h.sat.im, h.sat.ob, fun k B hB => ?_⟩, hext⟩
  · obtain ⟨D, h1, hn, h2⟩ := h0.defers
    refine ⟨D, h1, hn, fun r hr => ?_⟩
    obtain ⟨h3, h4, h5⟩ := h2 r hr
    obtain ⟨e1, e2⟩ := h.ext.keep r (heap_lt h3) (fun hk => by
      rcases hk with hk | ⟨n, hk⟩
      · exact absurd hk (Nat.not_le.2 (heap_lt h3))
      · have hk : g.O r = some (C.d, n) := hk
        rw [h4] at hk; simp at hk) (fun ⟨y, n, _, hm⟩ => by
        have hm : g.O r = some (y, n) := hm
        rw [h4] at hm; simp at hm)
    exact ⟨e1.trans h3, e2.trans h4, h5⟩
  · obtain ⟨j, h1, h2⟩ := zipT_lk hx
    obtain ⟨p1, p2⟩ := h.sat.blk hN (.hold vs tv) (by simp [lk_cons])
    refine p2 j x _ h2 ?_
    rw [hvs, List.getElem?_map, h1]; rfl
  · have hB' : B = .dead ∨ lk ((hN, .hold vs tv) :: (lN, .obj l o) :: hs) k = some B := by
      simp only [lk_cons] at hB ⊢
      cases hb : lN.beq k
      · simp only [hb, cond_false] at hB
        cases hb2 : hN.beq k
        · simp only [hb2, cond_false] at hB; simp [hB]
        · simp only [hb2, cond_true] at hB; injection hB with hB; exact .inl hB.symm
      · have : lN = k := by simpa using hb
        subst this
        have : hN.beq lN = false := beqF.2 hne
        simp only [hb, cond_true] at hB
        simp [this, hB]
    rcases hB' with rfl | hB'
    · trivial
    · exact (h.sat.blk k B hB').outof hext.okb (fun _ => hyB)

theorem Rel.kept {C : Ctx} {st : St} {ρ : Nat → Value} {I I' : Im} {O O' : Owns} {a : Act} {w w' : World} {B : Nat} (h : Rel C st ⟨ρ, I, O⟩ a w) (hI : Im.le I I') (hk : ∀ b, b < w.heap.size → (b < B ∨ ∃ y n, y ∈ C.d :: C.ds ∧ O b = some (y, n)) → w'.heap[b]? = w.heap[b]? ∧ O' b = O b)
    (h1 : w'.os = w.os) (h2 : w'.tape = w.tape) (h3 : w'.output = w.output) (h4 : w.heap.size ≤ w'.heap.size) (hio : ImO I' O' w') (hm : ∀ r, mkD r ∈ a.defers → r < B) (hB : C.w0.heap.size ≤ B) : Rel C st ⟨ρ, I', O'⟩ a w' := by
  have hd : ∀ b n, b < w.heap.size → O b = some (C.d, n) → w'.heap[b]? = w.heap[b]? ∧ O' b = O b := fun b n hb hO => hk b hb (.inr ⟨C.d, n, by simp, hO⟩)
  refine ⟨h.size, ?_, fun t x hx => (h.tmps t x hx).mono hI, ⟨hio.1, hio.2, fun k B' hB' => ?_⟩, ?_⟩
  · obtain ⟨D, p1, hn, p2⟩ := h.defers
    refine ⟨D, p1, hn, fun r hr => ?_⟩
    obtain ⟨p3, p4, p5⟩ := p2 r hr
    obtain ⟨e1, e2⟩ := hk r (heap_lt p3) (.inl (hm r (by rw [p1]; exact List.mem_map_of_mem hr)))
    exact ⟨e1.trans p3, e2.trans p4, p5⟩
  · have h0 := h.sat.blk k B' hB'
    cases B' with
    | box cs E =>
      obtain ⟨b, vs, q1, q2, q3, q4, q5, q6⟩ := h0
      obtain ⟨e1, e2⟩ := hd b k (heap_lt q4) q2
      exact ⟨b, vs, q1, e2.trans q2, q3, e1.trans q4, q5, fun j c v hcc hv => (q6 j c v hcc hv).mono hI⟩
    | row enc l E s =>
      obtain ⟨xs, q1, q2, q3, q4⟩ := h0
      refine ⟨xs, ?_, q2, fun i x j c v hx hcc hv => (q3 i x j c v hx hcc hv).mono hI, fun b hb => ?_⟩
      · obtain ⟨p1, p2⟩ := q1
        refine ⟨p1, ?_⟩
        rcases p2 with p2 | ⟨b, cap, cur, hv, hb, hh, r⟩
        · exact .inl p2
        · have := q4 b (by rw [hv]; rfl)
          exact .inr ⟨b, cap, cur, hv, hb, (hd b k (heap_lt hh) this.1).1.trans hh, r⟩
      · obtain ⟨r1, r2⟩ := q4 b hb
        exact ⟨(hd b k (ownsRow_lt q1 hb) r1).2.trans r1, r2⟩
    | hold vs cs => exact ⟨h0.1, fun j c v hcc hv => (h0.2 j c v hcc hv).mono hI⟩
    | obj b o =>
      obtain ⟨q1, q2, q3⟩ := h0
      obtain ⟨e1, e2⟩ := hd b k (heap_lt q1) q2
      exact ⟨e1.trans q1, e2.trans q2, q3⟩
    | yld j on =>
      obtain ⟨q1, q2, q3, q4, q5⟩ := h0
      refine ⟨q1, q2, q3, fun b n hn => ?_, q2 j on _ _ _ _ _ _ q5 hI (fun b hb hy => hk b hb ?_) h1 h2 h3 h4 hio⟩
      · rcases Nat.lt_or_ge b C.yB with hl | hl
        · have hbw : b < w.heap.size := by have := h.ext.size; omega
          have e := (hk b hbw (.inl (by omega))).2
          exact q4 b n (e.symm.trans hn)
        · exact hl
      · rcases hy with hy | ⟨y, n, hy, hm⟩
        · exact .inl (by omega)
        · exact .inr ⟨y, n, by simp [hy], hm⟩
    | dead => trivial
  · refine ⟨Im.le_trans h.ext.I hI, h1.trans h.ext.os, h2.trans h.ext.tape, h3.trans h.ext.output, Nat.le_trans h.ext.size h4, fun b hb hn ho => ?_, fun b y n hb hy => ?_⟩
    · obtain ⟨p1, p2⟩ := h.ext.keep b hb hn ho
      obtain ⟨e1, e2⟩ := hk b (Nat.lt_of_lt_of_le hb h.ext.size) (.inl (by omega))
      exact ⟨e1.trans p1, e2.trans p2⟩
    · have e2 := (hk b (Nat.lt_of_lt_of_le hb h.ext.size) (.inl (by omega))).2
      exact h.ext.own b y n hb (e2.symm.trans hy)

theorem Rel.drop2 {C : Ctx} {t : List (Nat × AV)} {k : Nat} {B1 B2 : Blk} {h : List (Nat × Blk)} {g : Gh} {a : Act} {w : World} (hr : Rel C (putH (putH ⟨t, (k, B1) :: h⟩ k B2) k .dead) g a w) : Rel C ⟨t, (k, .dead) :: h⟩ g a w := by
  refine ⟨hr.size, hr.defers, hr.tmps, ⟨hr.sat.im, hr.sat.ob, fun k' B hB => hr.sat.blk k' B ?_⟩, hr.ext⟩
  simp only [putH, lk_cons] at hB ⊢
  cases hb : k.beq k' <;> simp [hb] at hB ⊢ <;> exact hB

def jumpOf : Exit → Option Code
  | .ret => some .ret
  | .exit id => some (.exit id)
  | _ => none

/-- Within a round: the record of its loop is known. -/
def RdOk (C : Ctx) (st : St) : Prop := match C.rd with
  | none => True
  | some l0 => ∃ k0 r0, lk st.h k0 = some (.obj l0 (.loop r0))

section
variable {P : Program} {C : Ctx} {st : St} {Q : Exit → St → Prop}

/-- The loop is entered: its record is there, and the mark. -/
theorem Rel.enter {g : Gh} {a : Act} {w : World} (hr : Rel C st g a w) (hrd : RdOk C st) {lN hN : Nat} (hl : st.fr lN = true) (hh : st.fr hN = true) (hne : hN ≠ lN) (fn : FuncId) (ps : Array Tmp) (assign body : Code) :
    ∃ l mark w1 g1 dfs, (Instr.enterLoop fn a.tmps ps assign body C.F.round).run P w = .ok (l, mark) w1 ∧
      Rel C ⟨st.t, (lN, .obj l (.loop { state := .ready, pending := none, fn, tmps := a.tmps, params := ps, assign, body, defers := dfs })) :: (hN, .dead) :: st.h⟩ g1 { a with defers := mark ++ a.defers } w1 := by
  -- the record alone
  have key : ∀ (g : Gh) (a' : Act) (w : World) (dfs : Nat), Rel C st g a' w → a'.tmps = a.tmps →
      Rel C ⟨st.t, (lN, .obj w.heap.size (.loop { state := .ready, pending := none, fn, tmps := a.tmps, params := ps, assign, body, defers := dfs })) :: (hN, .dead) :: st.h⟩
        (g.nw C.d w.heap.size lN .nilIface) a' (w.alloc (.loop { state := .ready, pending := none, fn, tmps := a.tmps, params := ps, assign, body, defers := dfs })) := by
    intro g a' w dfs hr ha
    generalize ho : Obj.loop { state := .ready, pending := none, fn, tmps := a.tmps, params := ps, assign, body, defers := dfs } = o
    have hadd := Add.nw (g := g) (Grow.alloc w o) C.d lN .nilIface
    have hio := ImOB.nw (g := g) ⟨hr.sat.im, hr.sat.ob⟩ (Grow.alloc w o) (by simp) C.d lN .nilIface
    have h1 := hr.add (d := none) (x := .any) (v := .nilIface) hadd (fun k hk => by injection hk with hk; subst hk; exact hl) (fun t h => by simp at h) (.any _) hio.1 hio.2
    exact (h1.withBlk (k := hN) (B := .dead) trivial).withBlk (k := lN) (B := .obj w.heap.size o) ⟨heap_alloc_new w _, by simp [Gh.nw], .inl hr.ext.size⟩
  unfold RdOk at hrd
  cases hC : C.rd with
  | none =>
    have hF : C.F.round = none := by unfold Ctx.F; rw [hC]; rfl
    rw [hF]
    have hgr := Grow.alloc w (.deferred (some []))
    have h1 : Rel C st g { a with defers := mkD w.heap.size :: a.defers } (w.alloc (.deferred (some []))) := by
      have hadd : Add none g w g (w.alloc (.deferred (some []))) := ⟨Im.le_refl _, fun _ _ => rfl, fun _ _ => rfl, hgr⟩
      have hr0 := hr.add (d := none) (x := .any) (v := .nilIface) hadd (fun k h => by simp at h) (fun t h => by simp at h) (.any _) (fun b o u hI => ⟨hgr.cell (hr.sat.im b o u hI).1, (hr.sat.im b o u hI).2⟩) (fun b k hO => Nat.lt_of_lt_of_le (hr.sat.ob b k hO) hgr.size)
      refine ⟨hr0.size, ?_, hr0.tmps, hr0.sat, hr0.ext⟩
      obtain ⟨D, p1, hn, p2⟩ := hr0.defers
      obtain ⟨D', q1, hn', q2⟩ := hr.defers
      have hDD : D' = D := by
        have e : D'.map mkD = D.map mkD := by rw [← q1, ← p1]; rfl
        exact (List.map_inj_right (fun x y h => by simpa [mkD] using h)).1 e
      refine ⟨w.heap.size :: D, by rw [show a.defers = D.map mkD from p1]; rfl, List.nodup_cons.2 ⟨fun hm => ?_, hn⟩, fun r hrm => ?_⟩
      · have := heap_lt (q2 _ (hDD ▸ hm)).1; omega
      · rcases List.mem_cons.1 hrm with rfl | hrm
        · refine ⟨heap_alloc_new w _, ?_, hr.ext.size⟩
          cases hO : g.O w.heap.size with
          | none => rfl
          | some k => have := hr.sat.ob _ k hO; omega
        · exact p2 r hrm
    have h2 := key g _ _ w.heap.size h1 rfl
    exact ⟨_, _, _, _, w.heap.size, run_enterLoop_outer fn a.tmps ps assign body, by simpa [mkD] using h2⟩
  | some l0 =>
    rw [hC] at hrd
    obtain ⟨k0, r0, hk0⟩ := hrd
    have hF : C.F.round = some l0 := by unfold Ctx.F; rw [hC]; rfl
    rw [hF]
    have hb := (hr.sat.blk k0 _ hk0).1
    exact ⟨_, _, _, _, r0.defers, run_enterLoop_inner hb fn a.tmps ps assign body, by simpa using key g a w r0.defers hr rfl⟩

theorem X.range {gop : Operand} {ps : Array Tmp} {assign body : Code} {f : FuncId} {caps caps' : List AV} {xs : List (List AV)} {sl : List Nat} (B : Nat → List AV × List (Nat × Blk)) (J : Nat → Prop) (lN hN : Nat)
    (hg : ev st gop = some (.fn f caps)) (hnm : AV.nm.nmL caps' = true) (hsl : sl.Nodup) (hxn : ∀ (j : Nat) (as : List AV), xs[j]? = some as → AV.nm.nmL as = true) (hit : It P f caps' xs) (hrd : RdOk C st) (hl : st.fr lN = true) (hh : st.fr hN = true) (hne : hN ≠ lN) (hyB : C.yB ≤ C.w0.heap.size)
    (hps : ∀ p ∈ ps.toList, p < C.n) (hpl : ∀ (j : Nat) (as : List AV), xs[j]? = some as → ps.toList.length = as.length) (hB : ∀ j, (B j).1.length = sl.length) (hlf : AV.fr.frL lN caps = true) (hhf : AV.fr.frL hN caps = true)
    (h0 : ∀ l o us, Imp C ⟨st.t, (hN, .hold us caps) :: (lN, .obj l o) :: (hN, .dead) :: st.h⟩ ⟨zipT sl (B 0).1, (hN, .hold us caps') :: (lN, .obj l o) :: (B 0).2⟩)
    (hJ0 : J 0) (hrnd : ∀ (j : Nat) (as : List AV), xs[j]? = some as → J j → ∀ (l : Nat) (ready busy : Obj) (rb : Loop) (vs : List Value) g w, busy = .loop rb → C.yB ≤ w.heap.size → X P (C.rnd l g w) assign ⟨setTs ps.toList as (zipT sl (B j).1), (hN, .hold vs (B j).1) :: (lN, .obj l ready) :: (B j).2⟩
      (fun e st1 => e = .normal ∧ lk st1.h lN = some (.obj l ready) ∧ X P (C.rnd l g w) body (putH st1 lN (.obj l busy)) (RndQ P C l g w busy lN hN vs sl (B (j + 1)) (J (j + 1)) Q)))
    (hend : J xs.length → Q .normal ⟨zipT sl (B xs.length).1, (lN, .dead) :: (hN, .dead) :: (B xs.length).2⟩) : X P C (.rangeFunc gop ps assign body) st Q := fun g a w hr => by
  refine wpIn_rangeFunc fun fn hfn => ?_
  obtain ⟨l, mark, w1, g1, dfs, henter, hr1⟩ := hr.enter (P := P) hrd hl hh hne fn ps assign body
  obtain ⟨us, e, hul, hu⟩ := inv_fn (ev_rv hr hg)
  have hu1 : RVL g1.I g1.ρ caps us := by
    have hg' : ev ⟨st.t, (lN, .obj l (.loop { state := .ready, pending := none, fn, tmps := a.tmps, params := ps, assign, body, defers := dfs })) :: (hN, .dead) :: st.h⟩ gop = some (.fn f caps) := by
      cases gop <;> exact hg
    obtain ⟨us', e', hul', hu'⟩ := inv_fn (ev_rv hr1 hg')
    have e1 : ∀ x : Operand, Act.eval { a with defers := mark ++ a.defers } x = a.eval x := fun x => by cases x <;> rfl
    rw [e1, e] at e'
    have : us = us' := by simpa using e'
    subst this
    exact ⟨hul', hu'⟩
  obtain ⟨g2, hr2⟩ := h0 l _ us g1 _ _ (hr1.withBlk (k := hN) (B := .hold us caps) hu1)
  have hus : RVL g2.I noNames caps' us := RVL.forget (hr2.sat.blk hN (.hold us caps') (by simp [lk_cons])) hnm
  have hnl : hN.beq lN = false := beqF.2 hne
  -- the state at a boundary
  let rec0 : Loop := { state := .ready, pending := none, fn, tmps := a.tmps, params := ps, assign, body, defers := dfs }
  let a1 : Act := { a with defers := mark ++ a.defers }
  let Y : Nat → Bool → Im → Owns → World → Prop := fun j on I O w => ∃ ρ, match on with
    | true => J j ∧ Rel C ⟨zipT sl (B j).1, (lN, .obj l (.loop rec0)) :: (hN, .dead) :: (B j).2⟩ ⟨ρ, I, O⟩ a1 w
    | false => ∃ e jc tv hs, jumpOf e = some jc ∧ Rel C ⟨zipT sl tv, (lN, .obj l (.loop { rec0 with state := .done, pending := some jc })) :: (hN, .dead) :: hs⟩ ⟨ρ, I, O⟩ a1 w ∧ Q e ⟨zipT sl tv, (lN, .dead) :: (hN, .dead) :: hs⟩
  have hY0 : Y 0 true g2.I g2.O w1 := ⟨g2.ρ, hJ0, by
    refine ⟨hr2.size, hr2.defers, hr2.tmps, ⟨hr2.sat.im, hr2.sat.ob, fun k B' hB' => ?_⟩, hr2.ext⟩
    simp only [lk_cons] at hB'
    cases hb : lN.beq k
    · cases hb2 : hN.beq k
      · exact hr2.sat.blk k B' (by simpa [lk_cons, hb, hb2] using hB')
      · have : B' = .dead := by simpa [hb, hb2] using hB'.symm
        subst this; trivial
    · have : lN = k := by simpa using hb
      subst this
      exact hr2.sat.blk lN B' (by simpa [lk_cons, hnl] using hB')⟩
  have hmk : ∀ r, mkD r ∈ a1.defers → r < w1.heap.size := fun r hrm => by
    obtain ⟨D, p1, _, p2⟩ := hr2.defers
    have hrm : mkD r ∈ D.map mkD := by rw [← p1]; exact hrm
    obtain ⟨r', hr', er⟩ := List.mem_map.1 hrm
    have : r' = r := by simpa [mkD] using er
    subst this
    exact heap_lt (p2 r' hr').1
  have hYc : YCl Y (C.d :: C.ds) w1.heap.size := by
    intro j on I O w I' O' w' hY hI hk h1 h2 h3 h4 hio
    cases on with
    | true => obtain ⟨ρ, hJ, hR⟩ := hY; exact ⟨ρ, hJ, hR.kept hI hk h1 h2 h3 h4 hio hmk hr2.ext.size⟩
    | false => obtain ⟨ρ, e, jc, tv, hs, q1, hR, q2⟩ := hY; exact ⟨ρ, e, jc, tv, hs, q1, hR.kept hI hk h1 h2 h3 h4 hio hmk hr2.ext.size, q2⟩
  have hYs : YStep P l (C.d :: C.ds) Y xs := by
    intro j as hj I O w args hY him hargs
    obtain ⟨ρ, hJ, hR⟩ := hY
    have hR : Rel C ⟨zipT sl (B j).1, (lN, .obj l (.loop rec0)) :: (hN, .dead) :: (B j).2⟩ ⟨ρ, I, O⟩ a1 w := hR
    have hbl := (hR.sat.blk lN (.obj l (.loop rec0)) (by simp [lk_cons])).1
    have hsz : args.toArray.size = rec0.params.size := by
      have := hpl j as hj
      simp only [List.size_toArray, hargs.1, rec0]; rw [← this]; simp
    refine ⟨_, _, _, _, _, run_yield hbl hsz, roundIn_of_wpIn trivial ?_⟩
    have hxr := hrnd j as hj hJ l (.loop rec0) (.loop { rec0 with state := .busy }) _ (sl.map fun t => a1.tmps.getD t undef) ⟨ρ, I, O⟩ w rfl (Nat.le_trans hyB hR.ext.size)
    have hok := hR.ext.okb
    have htm : ∀ t x, lk (setTs ps.toList as (zipT sl (B j).1)) t = some x → RV I ρ x (((rec0.params.zip args.toArray).foldl (fun tmps (t, a) => tmps.setIfInBounds t a) rec0.tmps).getD t undef) := by
      have := setTs_rv (I := I) (ρ := ρ) (ps := ps.toList) (as := as) (vs := args) (s := zipT sl (B j).1) (tm := a.tmps) (by rw [hpl j as hj]) (hargs.forget (hxn j as hj)) (fun p hp => by rw [hr.size]; exact hps p hp) (fun t x hx => hR.tmps t x hx)
      intro t x hx
      have h3 := this t x hx
      have e3 : (rec0.params.zip args.toArray).foldl (fun tmps (t, a) => tmps.setIfInBounds t a) rec0.tmps = (ps.toList.zip args).foldl (fun tm (t, a) => tm.setIfInBounds t a) a.tmps := by
        rw [← Array.foldl_toList]
        simp [rec0, Array.toList_zip]
      rw [e3]; exact h3
    have hRr : Rel (C.rnd l ⟨ρ, I, O⟩ w) ⟨setTs ps.toList as (zipT sl (B j).1), (hN, .hold (sl.map fun t => a1.tmps.getD t undef) (B j).1) :: (lN, .obj l (.loop rec0)) :: (B j).2⟩ ⟨ρ, I, O⟩
        { tmps := (rec0.params.zip args.toArray).foldl (fun tmps (t, a) => tmps.setIfInBounds t a) rec0.tmps, defers := [] } w := by
      refine ⟨?_, Dfs.nil _ _ _, htm, ⟨hR.sat.im, hR.sat.ob, fun k B' hB' => ?_⟩, ⟨Im.le_refl _, rfl, rfl, rfl, Nat.le_refl _, fun _ _ _ _ => ⟨rfl, rfl⟩, fun b y n _ hy => ⟨n, hy⟩⟩⟩
      · rw [← Array.foldl_toList, foldl_size]; exact hr.size
      · simp only [lk_cons] at hB'
        cases hb : hN.beq k
        · refine (hR.sat.blk k B' ?_).into (fun b n hO => .inr ⟨n, hO⟩) (fun h => Nat.le_trans h hR.ext.size)
          simpa [lk_cons, hb] using hB'
        · have : B' = .hold (sl.map fun t => a1.tmps.getD t undef) (B j).1 := by simpa [hb] using hB'.symm
          subst this
          refine ⟨by simp [hB], fun q c v hc hv => ?_⟩
          rw [List.getElem?_map] at hv
          cases hs : sl[q]? with
          | none => simp [hs] at hv
          | some t =>
            simp [hs] at hv
            subst hv
            have hz : ∀ (sl : List Nat) (xs : List AV) (q : Nat), sl.Nodup → sl[q]? = some t → xs[q]? = some c → lk (zipT sl xs) t = some c := by
              intro sl
              induction sl with
              | nil => intro xs q _ h; simp at h
              | cons s r ih =>
                intro xs q hnd h h'
                cases xs with
                | nil => simp at h'
                | cons y ys =>
                  cases q with
                  | zero => simp at h h'; subst h; subst h'; simp [zipT, lk_cons]
                  | succ q =>
                    simp at h h'
                    have hne : s ≠ t := fun e => (List.nodup_cons.1 hnd).1 (e ▸ List.mem_of_getElem? h)
                    have hb : s.beq t = false := beqF.2 hne
                    simp [zipT, lk_cons, hb, ih ys q (List.nodup_cons.1 hnd).2 h h']
            simpa [Array.getD_eq_getD_getElem?] using hR.tmps t c (hz sl _ q hsl hs hc)
    refine wpIn_mono (hxr _ _ _ hRr) ?_
    rintro e2 a2 w2 ⟨st1, g3, hR1, he, hlk1, hbody⟩
    subst he
    obtain ⟨hb1, _, _⟩ := hR1.sat.blk lN _ hlk1
    refine ⟨_, run_beginRound hb1 rfl, ?_⟩
    have hR2 := hR1.putObj (o' := .loop { rec0 with state := .busy }) hlk1
    refine wpIn_mono (hbody _ _ _ hR2) ?_
    rintro e3 a3 w3 ⟨st3, g4, hR3, tv, hs, himp, hq⟩
    obtain ⟨g5, hR5⟩ := himp g4 a3 w3 hR3
    have hlk : lk [(hN, Blk.hold (sl.map fun t => a1.tmps.getD t undef) tv), (lN, .obj l (.loop { rec0 with state := .busy }))] lN = some (.obj l (.loop { rec0 with state := .busy })) := by simp [lk_cons, hnl]
    have hlk5 : lk ((hN, Blk.hold (sl.map fun t => a1.tmps.getD t undef) tv) :: (lN, .obj l (.loop { rec0 with state := .busy })) :: hs) lN = some (.obj l (.loop { rec0 with state := .busy })) := by simp [lk_cons, hnl]
    obtain ⟨hb5, _, _⟩ := hR5.sat.blk lN _ hlk5
    -- the record written
    have fin : ∀ (jump : Option Code), Rel C ⟨zipT sl tv, (lN, .obj l (.loop { rec0 with state := if jump.isNone then .ready else .done, pending := jump })) :: (hN, .dead) :: hs⟩ g5 a1 (w3.putObj l (.loop { rec0 with state := if jump.isNone then .ready else .done, pending := jump })) ∧
        (Instr.endRound l jump).run P w3 = .ok (.bool jump.isNone) (w3.putObj l (.loop { rec0 with state := if jump.isNone then .ready else .done, pending := jump })) ∧
        ImO g5.I g5.O (w3.putObj l (.loop { rec0 with state := if jump.isNone then .ready else .done, pending := jump })) ∧
        Chg (C.d :: C.ds) I O w g5.I g5.O (w3.putObj l (.loop { rec0 with state := if jump.isNone then .ready else .done, pending := jump })) := fun jump => by
      have h6 := hR5.putObj (o' := .loop { rec0 with state := if jump.isNone then .ready else .done, pending := jump }) hlk5
      have h7 : Rel (C.rnd l ⟨ρ, I, O⟩ w) ⟨[], (hN, .hold (sl.map fun t => a1.tmps.getD t undef) tv) :: (lN, .obj l (.loop { rec0 with state := if jump.isNone then .ready else .done, pending := jump })) :: hs⟩ g5 a3 (w3.putObj l (.loop { rec0 with state := if jump.isNone then .ready else .done, pending := jump })) := by
        refine ⟨h6.size, h6.defers, h6.tmps, ⟨h6.sat.im, h6.sat.ob, fun k B' hB' => h6.sat.blk k B' ?_⟩, h6.ext⟩
        simp only [putH, lk_cons] at hB' ⊢
        cases hb : lN.beq k
        · simpa [hb] using hB'
        · have : lN = k := by simpa using hb
          subst this
          simpa [hnl] using hB'
      refine ⟨hR.outof h7 hne rfl hyB, run_endRound (r := { rec0 with state := .busy }) jump hb5, ⟨h6.sat.im, h6.sat.ob⟩, ⟨h6.ext.I, h6.ext.os, h6.ext.tape, h6.ext.output, h6.ext.size, fun b hb hno => ?_, h6.ext.own⟩⟩
      refine h6.ext.keep b hb (fun hk => ?_) (fun ⟨y, n, hy, hm⟩ => hno ⟨y, n, by simp [show y ∈ C.ds from hy], hm⟩)
      rcases hk with hk | ⟨n, hk⟩
      · exact absurd hk (Nat.not_le.2 hb)
      · exact hno ⟨C.d, n, by simp, hk⟩
    cases e3 with
    | normal =>
      obtain ⟨f1, f2, f3, f4⟩ := fin none
      obtain ⟨hq, hJ'⟩ : (tv, hs) = B (j + 1) ∧ J (j + 1) := hq
      have e1 : tv = (B (j + 1)).1 := by rw [← hq]
      have e2 : hs = (B (j + 1)).2 := by rw [← hq]
      subst e1; subst e2
      exact ⟨_, _, f2, true, g5.I, g5.O, rfl, ⟨g5.ρ, hJ', f1⟩, f3, f4⟩
    | ret =>
      obtain ⟨f1, f2, f3, f4⟩ := fin (some .ret)
      exact ⟨_, _, f2, false, g5.I, g5.O, rfl, ⟨g5.ρ, .ret, .ret, tv, hs, rfl, f1, hq⟩, f3, f4⟩
    | exit id =>
      obtain ⟨f1, f2, f3, f4⟩ := fin (some (.exit id))
      exact ⟨_, _, f2, false, g5.I, g5.O, rfl, ⟨g5.ρ, .exit id, .exit id, tv, hs, rfl, f1, hq⟩, f3, f4⟩
    | goto t => exact hq.elim
    | panic c => exact hq.elim
    | outgrown => exact hq.elim
  have hcall := hit.2 (C.d :: C.ds) l Y g2.I g2.O w1 us ⟨hr2.sat.im, hr2.sat.ob⟩ hus hYc hY0 hYs
  refine ⟨l, mark, w1, { target := .fn (.func f) us.toArray, args := #[.func (.yield l) #[] #[]] }, w1, f, (Value.func (.yield l) #[] #[] :: us).toArray, w1, henter, ?_, fun f' _ => C.F_fn f', ?_, fun hx => by rw [C.F_depth] at hx; simp at hx, ?_⟩
  · simp [resolve, e, Deferred.ofValue]
    rfl
  · have := run_callFunc (P := P) hit.1 (#[Value.func (.yield l) #[] #[]] ++ us.toArray) w1
    simpa [invoke] using this
  · refine CallsIn.mono (C.calls hcall) ?_
    rintro e' w' ⟨v, j, on, I', O', rfl, hon, hYf, him, hc⟩
    cases on with
    | true =>
      obtain ⟨ρ, hJ, hR⟩ := hYf
      have hR : Rel C ⟨zipT sl (B j).1, (lN, .obj l (.loop rec0)) :: (hN, .dead) :: (B j).2⟩ ⟨ρ, I', O'⟩ a1 w' := hR
      have hj := hon rfl
      subst hj
      have hlk : lk ((lN, .obj l (.loop rec0)) :: (hN, .dead) :: (B xs.length).2) lN = some (.obj l (.loop rec0)) := by simp [lk_cons]
      have hb := (hR.sat.blk lN _ hlk).1
      refine ⟨none, _, run_endLoop hb (by simp [rec0]), ?_⟩
      have h2 := (hR.putObj (o' := .loop { rec0 with state := .exhausted }) hlk).withBlk (k := lN) (B := .dead) trivial
      exact ⟨_, _, h2.drop2, hend hJ⟩
    | false =>
      obtain ⟨ρ, e, jc, tv, hs, q1, hR, q2⟩ := hYf
      have hlk : lk ((lN, .obj l (.loop { rec0 with state := .done, pending := some jc })) :: (hN, .dead) :: hs) lN = some (.obj l (.loop { rec0 with state := .done, pending := some jc })) := by simp [lk_cons]
      have hb := (hR.sat.blk lN _ hlk).1
      refine ⟨some jc, _, run_endLoop hb (by simp), ?_⟩
      have h2 := ((hR.putObj (o' := .loop { rec0 with state := .exhausted, pending := some jc }) hlk).withBlk (k := lN) (B := .dead) trivial).drop2
      cases e <;> simp [jumpOf] at q1
      · subst q1; exact wpIn_exit ⟨_, _, h2, q2⟩
      · subst q1; exact wpIn_ret ⟨_, _, h2, q2⟩
end
end Go.Rse
