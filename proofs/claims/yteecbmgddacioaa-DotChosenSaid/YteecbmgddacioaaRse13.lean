/-
  Iterators: a function that yields, as those see it that range over it; and its own walk.
-/
import Derived.Test.YteecbmgddacioaaRse12
namespace Go.Rse
open Go Go.RowKit
set_option linter.unusedVariables false

/-- Only the owners ds have changed what was there. -/
structure Chg (ds : List Nat) (I : Im) (O : Owns) (w : World) (I' : Im) (O' : Owns) (w' : World) : Prop where
  I : Im.le I I'
  os : w'.os = w.os
  tape : w'.tape = w.tape
  output : w'.output = w.output
  size : w.heap.size ≤ w'.heap.size
  keep : ∀ b, b < w.heap.size → (¬ ∃ y n, y ∈ ds ∧ O b = some (y, n)) → w'.heap[b]? = w.heap[b]? ∧ O' b = O b
  own : ∀ b y n, b < w.heap.size → O' b = some (y, n) → ∃ n', O b = some (y, n')

/-- What one call of yield does. -/
def YStep (P : Program) (l : Nat) (ds : List Nat) (Y : Nat → Bool → Im → Owns → World → Prop) (xs : List (List AV)) : Prop :=
  ∀ (j : Nat) (as : List AV), xs[j]? = some as → ∀ (I : Im) (O : Owns) (w : World) (args : List Value), Y j true I O w → ImO I O w → RVL I noNames as args →
    ∃ fn tmps assign body w1, (Instr.yield l args.toArray).run P w = .ok (.round l fn tmps assign body) w1 ∧
      RoundIn Fence.wide 0 P l fn tmps assign body w1 fun e w' => ∃ b I' O', e = .returned (.bool b) ∧ Y (bif b then j + 1 else j) b I' O' w' ∧ ImO I' O' w' ∧ Chg ds I O w I' O' w'

/-- The closure f yields xs, one after the other, as long as it is told to go on. -/
def It (P : Program) (f : FuncId) (caps : List AV) (xs : List (List AV)) : Prop :=
  callOk P f = true ∧ ∀ (ds : List Nat) (l : Nat) (Y : Nat → Bool → Im → Owns → World → Prop) (I : Im) (O : Owns) (w : World) (us : List Value), ImO I O w → RVL I noNames caps us →
    YCl Y ds w.heap.size → Y 0 true I O w → YStep P l ds Y xs →
    Calls P f (Value.func (.yield l) #[] #[] :: us).toArray w fun e w' => ∃ v j on I' O', e = .returned v ∧ (on = true → j = xs.length) ∧ Y j on I' O' w' ∧ ImO I' O' w' ∧ Chg ds I O w I' O' w'

/-- The name under which the askers' state is known. -/
abbrev yN : Nat := 1000000

theorem BlkSat.chg {C : Ctx} {g : Gh} {w : World} {I' : Im} {O' : Owns} {w' : World} {k : Nat} {B : Blk} (h : BlkSat C g w k B) (hy : ∀ j on, B ≠ .yld j on) (hd : C.d ∉ C.ds) (hc : Chg C.ds g.I g.O w I' O' w') : BlkSat C ⟨g.ρ, I', O'⟩ w' k B := by
  have hk : ∀ b n, b < w.heap.size → g.O b = some (C.d, n) → w'.heap[b]? = w.heap[b]? ∧ O' b = g.O b := fun b n hb hO => hc.keep b hb (fun ⟨y, m, hy, hm⟩ => by
    rw [hO] at hm; injection hm with hm; injection hm with e _; exact hd (e ▸ hy))
  cases B with
  | box cs E =>
    obtain ⟨b, vs, h1, h2, h3, h4, h5, h6⟩ := h
    obtain ⟨e1, e2⟩ := hk b k (heap_lt h4) h2
    exact ⟨b, vs, h1, e2.trans h2, h3, e1.trans h4, h5, fun j c v hcc hv => (h6 j c v hcc hv).mono hc.I⟩
  | row enc l E s =>
    obtain ⟨xs, h1, h2, h3, h4⟩ := h
    refine ⟨xs, ?_, h2, fun i x j c v hx hcc hv => (h3 i x j c v hx hcc hv).mono hc.I, fun b hb => ?_⟩
    · obtain ⟨p1, p2⟩ := h1
      refine ⟨p1, ?_⟩
      rcases p2 with p2 | ⟨b, cap, cur, hv, hb, hh, r⟩
      · exact .inl p2
      · have := h4 b (by rw [hv]; rfl)
        exact .inr ⟨b, cap, cur, hv, hb, (hk b k (heap_lt hh) this.1).1.trans hh, r⟩
    · obtain ⟨q1, q2⟩ := h4 b hb
      exact ⟨(hk b k (ownsRow_lt h1 hb) q1).2.trans q1, q2⟩
  | hold vs cs => exact ⟨h.1, fun j c v hcc hv => (h.2 j c v hcc hv).mono hc.I⟩
  | obj b o =>
    obtain ⟨h1, h2, h3⟩ := h
    obtain ⟨e1, e2⟩ := hk b k (heap_lt h1) h2
    exact ⟨e1.trans h1, e2.trans h2, h3⟩
  | yld j on => exact absurd rfl (hy j on)
  | dead => trivial

theorem Dfs.chg {C : Ctx} {g : Gh} {w : World} {I' : Im} {O' : Owns} {w' : World} {ds : List Deferred} (h : Dfs C g ds w) (hc : Chg C.ds g.I g.O w I' O' w') : Dfs C ⟨g.ρ, I', O'⟩ ds w' := by
  obtain ⟨D, h1, hn, h2⟩ := h
  refine ⟨D, h1, hn, fun r hr => ?_⟩
  obtain ⟨h3, h4, h5⟩ := h2 r hr
  obtain ⟨e1, e2⟩ := hc.keep r (heap_lt h3) (fun ⟨y, n, _, hm⟩ => by rw [h4] at hm; simp at hm)
  exact ⟨e1.trans h3, e2.trans h4, h5⟩

theorem Ext.chg {C : Ctx} {g : Gh} {w : World} {I' : Im} {O' : Owns} {w' : World} (h : Ext C g w) (hc : Chg C.ds g.I g.O w I' O' w') : Ext C ⟨g.ρ, I', O'⟩ w' :=
  ⟨Im.le_trans h.I hc.I, hc.os.trans h.os, hc.tape.trans h.tape, hc.output.trans h.output, Nat.le_trans h.size hc.size,
   fun b hb hn ho => by
    obtain ⟨h1, h2⟩ := h.keep b hb hn ho
    obtain ⟨e1, e2⟩ := hc.keep b (Nat.lt_of_lt_of_le hb h.size) (fun ⟨y, n, hy, hm⟩ => ho ⟨y, n, hy, by rw [← h2]; exact hm⟩)
    exact ⟨e1.trans h1, e2.trans h2⟩,
   fun b y n hb hy => by
    obtain ⟨n', hn'⟩ := hc.own b y n (Nat.lt_of_lt_of_le hb h.size) hy
    exact h.own b y n' hb hn'⟩

/-- Nobody but the state of the askers lies under yN. -/
def noY : List (Nat × Blk) → Bool
  | [] => true
  | (_, .yld _ _) :: _ => false
  | (_, _) :: r => noY r
theorem noY_lk : ∀ {h : List (Nat × Blk)}, noY h = true → ∀ {k : Nat} {B : Blk}, lk h k = some B → ∀ j on, B ≠ .yld j on
  | [], _, _, _, e, _, _ => by simp [lk] at e
  | (k', B') :: r, h, k, B, e, j, on => by
    simp only [lk_cons] at e
    cases hb : k'.beq k <;> simp [hb] at e
    · refine noY_lk ?_ e j on
      cases B' <;> first | exact h | simp [noY] at h
    · subst e
      cases B' <;> first | (simp; done) | simp [noY] at h
/-- Without the askers' state. -/
def dropY : List (Nat × Blk) → List (Nat × Blk)
  | [] => []
  | (_, .yld _ _) :: r => dropY r
  | x :: r => x :: dropY r
/-- The askers' state lies under yN alone. -/
def yOk : List (Nat × Blk) → Bool
  | [] => true
  | (k, .yld _ _) :: r => k.beq yN && yOk r
  | (k, _) :: r => !(k.beq yN) && yOk r
theorem yOk_lk : ∀ {h : List (Nat × Blk)}, yOk h = true → ∀ {k : Nat} {B : Blk}, k ≠ yN → lk h k = some B → ∀ j on, B ≠ .yld j on
  | [], _, _, _, _, e, _, _ => by simp [lk] at e
  | (k', B') :: r, h, k, B, hk, e, j, on => by
    simp only [lk_cons] at e
    have hr : yOk r = true := by cases B' <;> simp [yOk] at h <;> exact h.2
    cases hb : k'.beq k <;> simp [hb] at e
    · exact yOk_lk hr hk e j on
    · have : k' = k := by simpa using hb
      subst this; subst e
      cases B' <;> first | (simp; done) | (simp [yOk] at h; exact absurd h.1 hk)

theorem RVL.argsArr {C : Ctx} {st : St} {g : Gh} {a : Act} {w : World} {args : Array Operand} : (args.toList.map a.eval).toArray = args.map a.eval := by simp [← Array.toList_map]

/-- yield is called. -/
theorem wp_yield {P : Program} {C : Ctx} {st : St} {ty : TypeId} {l : Nat} {xs : List (List AV)} (hY : YStep P l C.ds C.Y xs) {fop : Operand} {args : Array Operand} {ts : Array TypeId} {j : Nat} {ys as : List AV} (hf : ev st fop = some (.yv l)) (hx : evs st args.toList = some ys)
    (hn : AV.nm.nmL ys = true) (hle : LeL ys as) (hj : lk st.h yN = some (.yld j true)) (hyo : yOk st.h = true) (hxs : xs[j]? = some as) {dst : Option Tmp} (hd : dOk C.n dst = true) {g : Gh} {a : Act} {w : World} (pos : String) (af : Array Edge) (gd : Option (Nat × Bool)) (hr : Rel C st g a w) {K : Act → World → Prop}
    (hK : ∀ (b : Bool) a' w' g', Rel C ⟨consT dst (.bool b) st.t, (yN, .yld (bif b then j + 1 else j) b) :: st.h⟩ g' a' w' → K a' w') :
    wp1 P { dst := dst, op := .call { callee := .value fop, args := args, argTypes := ts }, type := ty, pos := pos, after := af, guard := gd } a w K := by
  have e : a.eval fop = .func (.yield l) #[] #[] := by
    have := ev_rv hr hf
    generalize a.eval fop = v at this
    cases this; rfl
  have hargs : RVL g.I noNames as (args.toList.map a.eval) := hle.rvl ((evs_rv hr hx).forget hn)
  obtain ⟨hd1, hd2, hd3, hd4, hd5⟩ := hr.sat.blk yN _ hj
  obtain ⟨fn, tmps, assign, body, w1, hrun, hround⟩ := hY j as hxs g.I g.O w _ hd5 ⟨hr.sat.im, hr.sat.ob⟩ hargs
  rw [RVL.argsArr (C := C) (st := st) (g := g) (w := w)] at hrun
  have e2 : (execOp a.eval { dst := dst, op := .call { callee := .value fop, args := args, argTypes := ts }, type := ty, pos := pos, after := af, guard := gd }).run P w = .ok (.round l fn tmps assign body) w1 := by
    simp only [execOp, resolve, e, Deferred.ofValue, Sem.run_bind, Sem.run_pure, Result.andThen_ok, invoke]
    simp [hrun]
  unfold wp1
  rw [e2]
  refine RoundIn.mono hround ?_
  rintro e w' ⟨b, I', O', rfl, hY', him', hc⟩
  refine ⟨.bool b, rfl, ?_⟩
  have hsat : Sat C ((yN, .yld (bif b then j + 1 else j) b) :: st.h) ⟨g.ρ, I', O'⟩ w' := ⟨him'.1, him'.2, fun k B hB => by
    simp only [lk_cons] at hB
    cases hb : yN.beq k <;> simp [hb] at hB
    · exact (hr.sat.blk k B hB).chg (yOk_lk hyo (fun e => by subst e; simp at hb) hB) hd1 hc
    · have : yN = k := by simpa using hb
      subst hB
      refine ⟨hd1, hd2, hd3, fun b' n hb' => ?_, hY'⟩
      rcases Nat.lt_or_ge b' w.heap.size with hl | hl
      · obtain ⟨n', hn'⟩ := hc.own b' C.d n hl hb'
        exact hd4 b' n' hn'
      · have := hr.ext.size; omega⟩
  have htm : ∀ t x, lk st.t t = some x → RV I' g.ρ x (a.tmps.getD t undef) := fun t x hx => (hr.tmps t x hx).mono hc.I
  refine hK b (a.put dst (.bool b)) w' ⟨g.ρ, I', O'⟩ ?_
  cases dst with
  | none => exact ⟨hr.size, hr.defers.chg hc, htm, hsat, hr.ext.chg hc⟩
  | some d =>
    refine ⟨by simp [Act.put, hr.size], hr.defers.chg hc, fun t x hx => ?_, hsat, hr.ext.chg hc⟩
    rw [getD_put (by rw [hr.size]; simpa [dOk] using hd)]
    simp only [consT, lk_cons] at hx
    by_cases e : d = t
    · subst e; simp at hx; rw [if_pos rfl, ← hx]; exact .bool b
    · have : d.beq t = false := beqF.2 e
      simp [this] at hx
      rw [if_neg e]; exact htm t x hx

theorem Ex.yield {P : Program} {C : Ctx} {ops : Array Oper} {st : St} {Q : Exit → St → Prop} {rest : List Oper} {ty : TypeId} {pos : String} {af : Array Edge} {l : Nat} {xs : List (List AV)} (hY : YStep P l C.ds C.Y xs) {fop : Operand} {args : Array Operand} {ts : Array TypeId} {j : Nat} {ys as : List AV} {dst : Option Tmp}
    (hf : ev st fop = some (.yv l)) (hx : evs st args.toList = some ys) (hn : AV.nm.nmL ys = true) (hle : LeL ys as) (hj : lk st.h yN = some (.yld j true)) (hyo : yOk st.h = true) (hxs : xs[j]? = some as) (hd : dOk C.n dst = true)
    (h : ∀ b : Bool, Ex P C ops rest ⟨consT dst (.bool b) st.t, (yN, .yld (bif b then j + 1 else j) b) :: st.h⟩ Q) :
    Ex P C ops ({ dst := dst, op := .call { callee := .value fop, args := args, argTypes := ts }, type := ty, pos := pos, after := af, guard := none } :: rest) st Q := fun g a w hr =>
  wpListIn_plain rfl fun K hK => wp1_in <| wp_yield hY hf hx hn hle hj hyo hxs hd pos af none hr fun b a' w' g' h' => hK _ _ (h b g' a' w' h')

/-- The same behind a guard. -/
theorem Ex.yieldG {P : Program} {C : Ctx} {ops : Array Oper} {st : St} {Q : Exit → St → Prop} {rest : List Oper} {ty : TypeId} {pos : String} {af : Array Edge} {l : Nat} {xs : List (List AV)} (hY : YStep P l C.ds C.Y xs) {fop : Operand} {args : Array Operand} {ts : Array TypeId} {j : Nat} {d i t : Nat} {want c : Bool}
    (hi : (ops[i]?).bind (·.dst) = some t) (hc : lk st.t t = some (.bool c)) (hd : d.blt C.n = true)
    (hyes : (c == want) = true → ∃ ys as, ev st fop = some (.yv l) ∧ evs st args.toList = some ys ∧ AV.nm.nmL ys = true ∧ LeL ys as ∧ lk st.h yN = some (.yld j true) ∧ yOk st.h = true ∧ xs[j]? = some as ∧
      ∀ b : Bool, Ex P C ops rest ⟨(d, .bool b) :: st.t, (yN, .yld (bif b then j + 1 else j) b) :: st.h⟩ Q)
    (hno : (c == want) = false → Ex P C ops rest ⟨(d, .any) :: st.t, st.h⟩ Q) :
    Ex P C ops ({ dst := some d, op := .call { callee := .value fop, args := args, argTypes := ts }, type := ty, pos := pos, after := af, guard := some (i, want) } :: rest) st Q := fun g a w hr => by
  have hy : yielded ops a.tmps i = some c := by
    have := inv_bool (hr.tmps t _ hc)
    have e : a.tmps[t]? = some (.bool c) := by
      simp only [Array.getD_eq_getD_getElem?] at this
      cases h : a.tmps[t]? with
      | none => rw [h] at this; simp [undef] at this
      | some u => rw [h] at this; simpa using this
    simp [yielded, hi, e]
  unfold wpListIn
  cases hw : (c == want) with
  | true =>
    have hwant : Region.wanted { dst := some d, op := .call { callee := .value fop, args := args, argTypes := ts }, type := ty, pos := pos, after := af, guard := some (i, want) } (yielded ops a.tmps) = true := by
      simp only [Region.wanted, hy]; exact hw
    rw [if_pos hwant]
    obtain ⟨ys, as, h1, h2, h3, h4, h5, h6, h7, h8⟩ := hyes hw
    exact wp1_in (wp_yield hY h1 h2 h3 h4 h5 h6 h7 (dst := some d) (by simpa [dOk] using hd) pos af _ hr fun b a' w' g' h' => h8 b g' a' w' h')
  | false =>
    have hwant : Region.wanted { dst := some d, op := .call { callee := .value fop, args := args, argTypes := ts }, type := ty, pos := pos, after := af, guard := some (i, want) } (yielded ops a.tmps) = false := by
      simp only [Region.wanted, hy]; simpa using hw
    rw [if_neg (by rw [hwant]; simp)]
    exact ⟨fun f _ => C.F_fn f, hno hw g _ w (hr.addSt (d := some d) (nb := none) (Add.refl _ g w) (by simpa [dOk] using hd) rfl (.any _) hr.sat.im hr.sat.ob (fun _ _ h => by cases h))⟩

/-- How an iterator ends. -/
def ItQ (n : Nat) (e : Exit) (st : St) : Prop := (e = .normal ∨ e = .ret) ∧ ∃ j on, lk st.h yN = some (.yld j on) ∧ (on = true → j = n)

/-- The context of an iterator. -/
abbrev C1 (n d : Nat) (ds : List Nat) (Y : Nat → Bool → Im → Owns → World → Prop) (g : Gh) (w : World) : Ctx := ⟨none, n, d, ds, w.heap.size, Y, g, w⟩

theorem It.intro {P : Program} {f : FuncId} {fn : Func} {c : Code} {n : Nat} {caps : List AV} {ts : Nat → List (Nat × AV)} {xs : List (List AV)} (hc : callOk P f = true) (hf : P.funcs[f]? = some fn) (hb : fn.body = some c) (hn : fn.ntmps = n) (hrv : fn.results = #[])
    (hts : ∀ l, inits 0 (.yv l :: caps) = ts l) (hlen : caps.length + 1 ≤ n) (h : ∀ g w d ds Y l, YStep P l ds Y xs → X P (C1 n d ds Y g w) c ⟨ts l, [(yN, .yld 0 true)]⟩ (ItQ xs.length)) : It P f caps xs := by
  refine ⟨hc, fun ds l Y I O w us him hus hcl hY hstep => (callsIn_wide (n := 0)).1 (callsIn_of_wp_marks hf hb trivial ?_)⟩
  obtain ⟨d, hd, hdd⟩ := fresh_id O w.heap.size ds him.2
  let C := C1 n d ds Y ⟨noNames, I, O⟩ w
  have hargs : RVL I noNames (.yv l :: caps) (Value.func (.yield l) #[] #[] :: us) := ⟨by simp [hus.1], fun j c v hc hv => by
    cases j with
    | zero => simp at hc hv; subst hc; subst hv; exact .yv l
    | succ j => exact hus.2 j c v (by simpa using hc) (by simpa using hv)⟩
  have hrel0 := Rel.start (C := C) (I := I) (O := O) (m := fn.ntmps) rfl rfl hn (by simpa using hlen) him hargs
  rw [hts l] at hrel0
  have hrel := hrel0.withBlk (k := yN) (B := .yld 0 true) ⟨hdd, hcl, Nat.le_refl _, fun b m hm => absurd hm (hd b m), hY⟩
  refine wpIn_mono (h _ w d ds Y l hstep _ _ w hrel) ?_
  rintro e a w' ⟨st, g1, hr1, he, j, on, hj, hon⟩
  obtain ⟨hd1, hd2, hd3, hd4, hd5⟩ := hr1.sat.blk yN _ hj
  have hfin : LeavesInM Fence.wide 0 P fn a.tmps (fun e w' => ∃ v j on I' O', e = .returned v ∧ (on = true → j = xs.length) ∧ Y j on I' O' w' ∧ ImO I' O' w' ∧ Chg ds I O w I' O' w') a.defers .returning w' := by
    obtain ⟨D, hD, hnd, hDr⟩ := hr1.defers
    refine leave_marks (C := C) (r := .tup []) (rv := []) (by simpa using hrv) (.many (by simp) .nil) (fun g3 w3 v hr3 hv => ?_) D hD hnd hDr ⟨hr1.size, Dfs.nil _ _ _, hr1.tmps, hr1.sat, hr1.ext⟩
    obtain ⟨hd1, hd2, hd3, hd4, hd5⟩ := hr3.sat.blk yN _ hj
    have hnk : ∀ b, b < w.heap.size → ¬ C.okb b := fun b hb hk => by
      rcases hk with hk | ⟨m, hk⟩
      · simp [C] at hk; omega
      · exact hd b m hk
    exact ⟨v, j, on, g3.I, g3.O, rfl, hon, hd5, ⟨hr3.sat.im, hr3.sat.ob⟩, ⟨hr3.ext.I, hr3.ext.os, hr3.ext.tape, hr3.ext.output, hr3.ext.size, fun b hb hno => hr3.ext.keep b hb (hnk b hb) hno, hr3.ext.own⟩⟩
  rcases he with rfl | rfl <;> exact hfin
end Go.Rse
