/-
  Slices of the function's own: built, appended to, let go (they change no more).
-/
import Derived.Test.YteecbmgddacioaaRse5
namespace Go.Rse
open Go Go.RowKit
set_option linter.unusedVariables false

/-- What speaks of the name k is forgotten. -/
def cln (k : Nat) (x : AV) : AV := bif x.fr k then x else .any
def clT (k : Nat) : List (Nat × AV) → List (Nat × AV)
  | [] => []
  | (t, x) :: r => (t, cln k x) :: clT k r
def clB (k : Nat) : Blk → Blk
  | .box cs E => .box (cs.map (cln k)) E
  | .hold vs cs => .hold vs (cs.map (cln k))
  | B => B
def clH (k : Nat) : List (Nat × Blk) → List (Nat × Blk)
  | [] => []
  | (n, B) :: r => (n, clB k B) :: clH k r
theorem lk_clT (k t : Nat) : ∀ l, lk (clT k l) t = (lk l t).map (cln k)
  | [] => rfl
  | (t', x) :: r => by
    simp only [clT, lk_cons]
    cases t'.beq t <;> simp [lk_clT k t r]
theorem lk_clH (k t : Nat) : ∀ l, lk (clH k l) t = (lk l t).map (clB k)
  | [] => rfl
  | (t', x) :: r => by
    simp only [clH, lk_cons]
    cases t'.beq t <;> simp [lk_clH k t r]
theorem RV.cln {I : Im} {ρ ρ' : Nat → Value} {x : AV} {v : Value} {k : Nat} (h : RV I ρ x v) (hρ : ∀ n, n ≠ k → ρ' n = ρ n) : RV I ρ' (cln k x) v := by
  unfold Rse.cln
  cases hf : x.fr k with
  | true => exact h.rename hf hρ
  | false => exact .any v

def consT (d : Option Nat) (x : AV) (l : List (Nat × AV)) : List (Nat × AV) := match d with | some d => (d, x) :: l | none => l

/-- The row of name k has been written or moved: ρ changes at k alone. -/
theorem Rel.modifyR {C : Ctx} {st : St} {g g' : Gh} {a : Act} {w w' : World} {k : Nat} {bo : Option Nat} {B : Blk} {d : Option Nat} {x : AV} {v : Value} (h : Rel C st g a w) (hI : g'.I = g.I) (hρ : ∀ n, n ≠ k → g'.ρ n = g.ρ n)
    (hO : ∀ b, b < w.heap.size → g'.O b = g.O b) (hbo : ∀ b, bo = some b → g.O b = some (C.d, k) ∧ C.okb b) (hm : w.grownBy w' bo) (hob : ∀ b k', g'.O b = some k' → b < w'.heap.size)
    (hd : dOk C.n d = true) (hx : RV g'.I g'.ρ x v) (hB : BlkSat C g' w' k B) :
    Rel C { t := consT d x (clT k st.t), h := (k, B) :: clH k st.h } g' (a.put d v) w' := by
  have htm : ∀ t y, lk (clT k st.t) t = some y → RV g'.I g'.ρ y (a.tmps.getD t undef) := fun t y hy => by
    rw [lk_clT] at hy
    cases hz : lk st.t t with
    | none => simp [hz] at hy
    | some z =>
      simp [hz] at hy; subst hy
      rw [hI]
      exact (h.tmps t z hz).cln hρ
  have hsat : Sat C ((k, B) :: clH k st.h) g' w' := by
    have him : ∀ b o u, g'.I b o = some u → w'.cell? ⟨b, o, none⟩ = some u ∧ g'.O b = none := fun b o u hi => by
      rw [hI] at hi
      obtain ⟨h1, h2⟩ := h.sat.im b o u hi
      have hlt := cell_lt h1
      refine ⟨?_, (hO b hlt).trans h2⟩
      have hne : some b ≠ bo := fun e => by have := (hbo b e.symm).1; rw [h2] at this; simp at this
      rw [World.cell?_of_block (w := w) (a := ⟨b, o, none⟩) (hm.block b hlt hne)]; exact h1
    refine ⟨him, hob, fun k' B' hB' => ?_⟩
    · simp only [lk_cons] at hB'
      cases hbq : k.beq k' <;> simp [hbq] at hB'
      · have hkk : k' ≠ k := fun e => by subst e; simp at hbq
        rw [lk_clH] at hB'
        cases hz : lk st.h k' with
        | none => simp [hz] at hB'
        | some B0 =>
          simp [hz] at hB'; subst hB'
          have h0 := h.sat.blk k' B0 hz
          cases B0 with
          | box cs E =>
            obtain ⟨b2, vs, h1, h2, h3, h4, h5, h6⟩ := h0
            have hlt : b2 < w.heap.size := by
              rcases Nat.lt_or_ge b2 w.heap.size with hl | hl
              · exact hl
              · simp [Array.getElem?_eq_none hl] at h4
            have hne : some b2 ≠ bo := fun e => hkk (by have := (hbo b2 e.symm).1; rw [h2] at this; simpa using this)
            refine ⟨b2, vs, (hρ k' hkk).trans h1, (hO b2 hlt).trans h2, h3, (hm.block b2 hlt hne).trans h4, by simpa using h5, fun j c v hc hv => ?_⟩
            rw [List.getElem?_map] at hc
            cases hc0 : cs[j]? with
            | none => simp [hc0] at hc
            | some c0 =>
              simp [hc0] at hc; subst hc
              rw [hI]
              exact (h6 j c0 v hc0 hv).cln hρ
          | row enc l E s =>
            obtain ⟨xs, h1, h2, h3, h4⟩ := h0
            refine ⟨xs, ?_, h2, fun i x j c v hx hc hv => by rw [hI]; exact h3 i x j c v hx hc hv, fun b hb => ?_⟩
            · rw [hρ k' hkk]
              refine h1.kept hm ?_
              cases ho : (g.ρ k').ownBlock with
              | none => exact .inl rfl
              | some b2 =>
                refine .inr fun e => ?_
                have hbk : blkOf (g.ρ k') = some b2 := by
                  revert ho
                  cases g.ρ k' <;> simp [Value.ownBlock]
                  rename_i A n c
                  cases A <;> simp [blkOf]
                have h5 := (h4 b2 hbk).1
                have h6 := (hbo b2 e.symm).1
                rw [h5] at h6
                exact hkk (by simpa using h6)
            · rw [hρ k' hkk] at hb
              exact ⟨(hO b (ownsRow_lt h1 hb)).trans (h4 b hb).1, (h4 b hb).2⟩
          | hold vs cs =>
            refine ⟨by simpa using h0.1, fun j c v hc hv => ?_⟩
            rw [List.getElem?_map] at hc
            cases hc0 : cs[j]? with
            | none => simp [hc0] at hc
            | some c0 =>
              simp [hc0] at hc; subst hc
              rw [hI]
              exact (h0.2 j c0 v hc0 hv).cln hρ
          | obj b2 o =>
            obtain ⟨h1, h2, h3⟩ := h0
            have hlt := heap_lt h1
            have hne : some b2 ≠ bo := fun e => hkk (by have := (hbo b2 e.symm).1; rw [h2] at this; simpa using this)
            exact ⟨(hm.block b2 hlt hne).trans h1, (hO b2 hlt).trans h2, h3⟩
          | yld j on =>
            refine yld_far h0 (by rw [hI]; exact Im.le_refl _) (fun b hlt _ => hO b hlt) (fun b e => .inl ⟨k, (hbo b e).1⟩) hm (fun b n hn => ?_) ⟨him, hob⟩
            rcases Nat.lt_or_ge b w.heap.size with hl | hl
            · exact h0.2.2.2.1 b n ((hO b hl).symm.trans hn)
            · have := h.ext.size; have := h0.2.2.1; omega
          | dead => trivial
      · have : k = k' := by simpa using hbq
        subst this; exact hB' ▸ hB
  have hext : Ext C g' w' := ⟨by rw [hI]; exact h.ext.I, hm.os.trans h.ext.os, hm.tape.trans h.ext.tape, hm.output.trans h.ext.output, Nat.le_trans h.ext.size hm.size, fun b' hb' hn ho => by
    have hne : some b' ≠ bo := fun e => hn (hbo b' e.symm).2
    obtain ⟨h1, h2⟩ := h.ext.keep b' hb' hn ho
    have hlt := Nat.lt_of_lt_of_le hb' h.ext.size
    exact ⟨(hm.block b' hlt hne).trans h1, (hO b' hlt).trans h2⟩, fun b y n hb hy => h.ext.own b y n hb ((hO b (Nat.lt_of_lt_of_le hb h.ext.size)).symm.trans hy)⟩
  have hdf : Dfs C g' a.defers w' := by
    obtain ⟨D, h1, hn, h2⟩ := h.defers
    refine ⟨D, h1, hn, fun r hr => ?_⟩
    obtain ⟨h3, h4, h5⟩ := h2 r hr
    have hlt : r < w.heap.size := by
      rcases Nat.lt_or_ge r w.heap.size with hl | hl
      · exact hl
      · simp [Array.getElem?_eq_none hl] at h3
    exact ⟨(hm.block r hlt (fun e => by have := (hbo r e.symm).1; rw [h4] at this; simp at this)).trans h3, (hO r hlt).trans h4, h5⟩
  cases d with
  | none => exact ⟨h.size, hdf, htm, hsat, hext⟩
  | some d =>
    refine ⟨by simp [Act.put, h.size], hdf, fun t y hy => ?_, hsat, hext⟩
    rw [getD_put (by rw [h.size]; simpa [dOk] using hd)]
    simp only [consT, lk_cons] at hy
    by_cases e : d = t
    · subst e
      simp at hy
      rw [if_pos rfl, ← hy]; exact hx
    · have : d.beq t = false := beqF.2 e
      simp [this] at hy
      rw [if_neg e]; exact htm t y hy

/-! ### The elements of a row -/
theorem flat_get {α : Type} {enc : α → List AV} {s : Nat} : ∀ (l : List α), (∀ (i : Nat) x, l[i]? = some x → (enc x).length = s) → ∀ (i : Nat) (x : α) (j : Nat), l[i]? = some x → j < s → (l.flatMap enc)[i * s + j]? = (enc x)[j]?
  | [], _, _, _, _, h, _ => by simp at h
  | y :: r, hs, 0, x, j, h, hj => by
    simp at h; subst h
    simp only [List.flatMap_cons, Nat.zero_mul, Nat.zero_add]
    rw [List.getElem?_append_left (by rw [hs 0 y (by simp)]; exact hj)]
  | y :: r, hs, i + 1, x, j, h, hj => by
    have hy := hs 0 y (by simp)
    simp only [List.flatMap_cons]
    rw [List.getElem?_append_right (by rw [hy, Nat.succ_mul]; omega), hy]
    rw [show (i + 1) * s + j - s = i * s + j by rw [Nat.succ_mul]; omega]
    exact flat_get r (fun i x h => hs (i + 1) x (by simpa using h)) i x j (by simpa using h) hj
theorem flat_len {α : Type} {enc : α → List AV} {s : Nat} : ∀ (l : List α), (∀ (i : Nat) x, l[i]? = some x → (enc x).length = s) → (l.flatMap enc).length = l.length * s
  | [], _ => by simp
  | y :: r, hs => by
    simp only [List.flatMap_cons, List.length_append, List.length_cons, Nat.succ_mul]
    rw [hs 0 y (by simp), flat_len r (fun i x h => hs (i + 1) x (by simpa using h))]
    omega

/-- Cells that hold the elements of l. -/
theorem row_of_flat {I : Im} {α : Type} {enc : α → List AV} {l : List α} {s : Nat} {xs : List Value} (hs : ∀ (i : Nat) x, l[i]? = some x → (enc x).length = s) (h : RVL I noNames (l.flatMap enc) xs) :
    ∀ (i : Nat) x (j : Nat) c v, l[i]? = some x → (enc x)[j]? = some c → xs[i * s + j]? = some v → RV I noNames c v := fun i x j c v hx hc hv =>
  h.2 (i * s + j) c v (by rw [flat_get l hs i x j hx (by rw [← hs i x hx]; exact (List.getElem?_eq_some_iff.1 hc).1)]; exact hc) hv

def seqParts : Nat → List AV → List (Nat × AV)
  | _, [] => []
  | i, x :: r => (i, x) :: seqParts (i + 1) r

theorem nmL_append : ∀ {a b : List AV}, AV.nm.nmL (a ++ b) = (AV.nm.nmL a && AV.nm.nmL b)
  | [], b => by simp [AV.nm.nmL]
  | x :: r, b => by simp [AV.nm.nmL, nmL_append (a := r) (b := b), Bool.and_assoc]

section
variable {P : Program} {C : Ctx} {st : St} {ty : TypeId}

/-- A slice whose elements are written out. -/
theorem A_buildSlice {α : Type} {enc : α → List AV} {l : List α} {t E : TypeId} {ag : Bool} {s n k : Nat} {parts : Array (Nat × Operand)} {ps : List (Nat × AV)} {z : Value} (ht : slOk P t E = true) (hE : tyOk P E ag s = true) (hz : (P.info? E).bind (·.zero) = some z)
    (hs0 : 0 < s) (hp : evParts st parts.toList = some ps) (hk : okParts ps = true) (hf : fillA (fun i => some (i * s, s)) (List.replicate (n * s) .any) ps = some (l.flatMap enc)) (hln : l.length = n) (hn : n * s ≤ 16777216) (hm : n ≤ 1000000)
    (hs : ∀ x, (enc x).length = s) (hnm : AV.nm.nmL (l.flatMap enc) = true) : StepA P C (.buildSlice t n parts) ty st (.own k) (some (k, .row enc l E s)) :=
  StepA.of_run fun g a w dst pos af gd hr => by
    have hcap : n ≤ maxLen := by simp only [maxLen]; omega
    have main : ∀ zc : Array Value, ∃ vs', Instr.fill (fun i => some (i * s, s)) ((Array.range (n * s)).map (zc[· % zc.size]!)) (parts.map fun (i, x) => (i, a.eval x)).toList = some vs' ∧ RVL g.I g.ρ (l.flatMap enc) vs'.toList := fun zc => by
      have := fill_ok (I := g.I) (ρ := g.ρ) (fun i => some (i * s, s)) ps (parts.toList.map fun (i, x) => (i, a.eval x)) (List.replicate (n * s) .any) (l.flatMap enc) ((Array.range (n * s)).map (zc[· % zc.size]!)) (evParts_rv hr hp) hk
        ⟨by simp, fun j c v hc hv => by
          rw [List.getElem?_replicate] at hc
          split at hc
          · injection hc with hc; subst hc; exact .any v
          · simp at hc⟩ hf
      simpa using this
    have hsl : ∀ (i : Nat) x, l[i]? = some x → (enc x).length = s := fun i x _ => hs x
    have fin : ∀ vs' : Array Value, RVL g.I g.ρ (l.flatMap enc) vs'.toList →
        Add (some k) g w (g.nw C.d w.heap.size k (.slice (some ⟨w.heap.size, 0, none⟩) n n)) (w.alloc (.cells vs' E)) ∧ RV (g.nw C.d w.heap.size k (.slice (some ⟨w.heap.size, 0, none⟩) n n)).I (g.nw C.d w.heap.size k (.slice (some ⟨w.heap.size, 0, none⟩) n n)).ρ (.own k) (.slice (some ⟨w.heap.size, 0, none⟩) n n) ∧
        ImOB (g.nw C.d w.heap.size k (.slice (some ⟨w.heap.size, 0, none⟩) n n)) (w.alloc (.cells vs' E)) ∧ BlkSat C (g.nw C.d w.heap.size k (.slice (some ⟨w.heap.size, 0, none⟩) n n)) (w.alloc (.cells vs' E)) k (.row enc l E s) := fun vs' hv => by
      refine ⟨Add.nw (Grow.alloc _ _) C.d k _, .own k _ _ _ (by simp [Gh.nw]), ImOB.nw ⟨hr.sat.im, hr.sat.ob⟩ (Grow.alloc _ _) (by simp) C.d k _, ?_⟩
      have hlen : vs'.toList.length = n * s := by rw [hv.1, flat_len l hsl, hln]
      refine ⟨vs'.toList, ?_, hsl, row_of_flat hsl ⟨hv.1, fun j c v hc hvv => (hv.2 j c v hc hvv).forget (AV.nmL_get hnm hc)⟩, fun b hb => ?_⟩
      · simp only [Gh.nw, if_true]
        refine ⟨by rw [hlen, hln], .inr ⟨w.heap.size, n, vs', by rw [hln], Nat.zero_le _, heap_alloc_new w _, by omega, hcap, by simpa using hlen, ?_⟩⟩
        rw [hln, ← hlen]; exact List.take_of_length_le (Nat.le_refl _)
      · simp only [Gh.nw, if_true, blkOf] at hb
        injection hb with hb; subst hb
        exact ⟨by simp [Gh.nw], .inl hr.ext.size⟩
    cases hi : P.info? E with
    | none => simp [hi] at hz
    | some i =>
      simp [hi] at hz
      have hsz : i.size = s := by simp [tyOk, hi] at hE; exact hE.1
      by_cases h0 : n * s = 0
      · obtain ⟨vs', h1, h2⟩ := main #[]
        obtain ⟨f1, f2, f3, f4⟩ := fin vs' h2
        refine ⟨_, _, _, ?_, f1, f2, f3, fun k' B hB => by injection hB with hB; injection hB with e1 e2; subst e1; subst e2; exact f4⟩
        simp only [execOp, Instr.buildSlice, Sem.run_bind, run_underlying (slOk_under ht), Result.andThen_ok, run_sizeOf hE, h0, if_true, Sem.run_pure]
        rw [h0] at h1
        rw [if_neg (by omega)]
        simp only [Sem.run_pure, Result.andThen_ok, h1, newRow, Sem.run_bind, run_newObj]
        rfl
      · obtain ⟨vs', h1, h2⟩ := main z.cells
        obtain ⟨f1, f2, f3, f4⟩ := fin vs' h2
        refine ⟨_, _, _, ?_, f1, f2, f3, fun k' B hB => by injection hB with hB; injection hB with e1 e2; subst e1; subst e2; exact f4⟩
        simp only [execOp, Instr.buildSlice, Sem.run_bind, run_underlying (slOk_under ht), Result.andThen_ok, run_sizeOf hE, h0, if_false, Sem.run_pure]
        rw [if_neg (by omega)]
        simp only [Sem.run_pure, Sem.run_bind, zeroValue, typeInfo, run_program, hi, hz, Result.andThen_ok, h1, newRow, run_newObj]
        rfl
end
end Go.Rse
