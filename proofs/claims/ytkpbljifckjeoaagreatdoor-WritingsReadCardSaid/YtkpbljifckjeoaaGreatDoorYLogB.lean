/-
  The logic: parts Rse13, Rse14, Rse15, Rse16, Rse17, Rse18, Rse19, Rse20.
  A scope that is gone through without a goto.
  The logic: parts Rse24, Rse25, Rse26, Rse27.
  A guarded operation whose guard is known to hold.
  The logic: drawn regions of which some operations lay memory that stays; parts of lists.
  Rules: a middle part of an immutable list; the greater and the smaller of two numbers.
  Rules: values of interface types, panics, calls that panic, a deferred closure that recovers.
-/
import Derived.Test.YtkpbljifckjeoaaGreatDoorYLogA
import Derived.RangeFuncNested
import Derived.Laws.Cover3
import Derived.Scope
import Derived.Laws.OwnMore
import Derived.RecoverIn
set_option linter.unusedSimpArgs false
set_option linter.unusedVariables false
namespace Go.Rse
open Go Go.RowKit
structure Chg (ds : List Nat) (I : Im) (O : Owns) (w : World) (I' : Im) (O' : Owns) (w' : World) : Prop where
 I : Im.le I I'
 os : w'.os = w.os
 tape : w'.tape = w.tape
 output : w'.output = w.output
 drawn : w.drawn <= w'.drawn
 size : w.heap.size <= w'.heap.size
 keep : ∀ b, b < w.heap.size -> (¬ ∃ y n, y ∈ ds /\ O b = some (y, n)) -> w'.heap[b]? = w.heap[b]? /\ O' b = O b
 own : ∀ b y n, b < w.heap.size -> O' b = some (y, n) -> ∃ n', O b = some (y, n')
def yx (P : Program) (l : Nat) (ds : List Nat) (Y : Nat -> Bool -> Im -> Owns -> World -> Prop) (xs : List (List AV)) : Prop :=
 ∀ (j : Nat) (as : List AV), xs[j]? = some as -> ∀ (I : Im) (O : Owns) (w : World) (args : List Value), Y j true I O w -> ImO I O w -> RVL I noNames as args →
  ∃ fn tmps assign body w1, (Instr.yield l args.toArray).run P w = .ok (.round l fn tmps assign body) w1 ∧
   RoundIn Fence.wide 0 P l fn tmps assign body w1 fun e w' => ∃ b I' O', e = .returned (.bool b) /\ Y (bif b then j + 1 else j) b I' O' w' /\ ImO I' O' w' /\ Chg ds I O w I' O' w'
def It (P : Program) (f : FuncId) (caps : List AV) (xs : List (List AV)) : Prop :=
 zZ P f = true /\ ∀ (ds : List Nat) (l : Nat) (Y : Nat -> Bool -> Im -> Owns -> World -> Prop) (I : Im) (O : Owns) (w : World) (us : List Value), ImO I O w -> RVL I noNames caps us →
  YCl Y ds w.heap.size -> Y 0 true I O w -> yx P l ds Y xs →
  Calls P f (Value.func (.yield l) #[] #[] :: us).toArray w fun e w' => ∃ v j on I' O', e = .returned v /\ (on = true -> j = xs.length) /\ Y j on I' O' w' /\ ImO I' O' w' /\ Chg ds I O w I' O' w'
abbrev yN : Nat := 1000000
theorem y4.chg {C : Ctx} {g : Gh} {w : World} {I' : Im} {O' : Owns} {w' : World} {k : Nat} {B : Blk} (h : y4 C g w k B) (hy : ∀ j on, B ≠ .yld j on) (hd : C.d ∉ C.ds) (hc : Chg C.ds g.I g.O w I' O' w') : y4 C ⟨g.ρ, I', O'⟩ w' k B := by
 have hk : ∀ b n, b < w.heap.size -> g.O b = some (C.d, n) -> w'.heap[b]? = w.heap[b]? /\ O' b = g.O b := fun b n hb hO => hc.keep b hb (fun ⟨y, m, hy, hm⟩ => by
  rw [hO] at hm; injection hm with hm; injection hm with e _; exact hd (e ▸ hy))
 cases B with
 | box cs E =>
  obtain ⟨b, vs, h1, h2, h3, h4, h5, h6⟩ := h;obtain ⟨e1, e2⟩ := hk b k (yW h4) h2;exact ⟨b, vs, h1, e2.trans h2, h3, e1.trans h4, h5, fun j c v hcc hv => (h6 j c v hcc hv).mono hc.I⟩
 | row enc l E s =>
  obtain ⟨xs, h1, h2, h3, h4⟩ := h;refine ⟨xs, ?_, h2, fun i x j c v hx hcc hv => (h3 i x j c v hx hcc hv).mono hc.I, fun b hb => ?_⟩
  ·obtain ⟨p1, p2⟩ := h1;refine ⟨p1, ?_⟩;rcases p2 with p2 | ⟨b, cap, cur, hv, hb, hh, r⟩
   ·exact .inl p2
   ·have := h4 b (by rw [hv]; rfl);exact .inr ⟨b, cap, cur, hv, hb, (hk b k (yW hh) this.1).1.trans hh, r⟩
  ·obtain ⟨q1, q2⟩ := h4 b hb;exact ⟨(hk b k (zbk h1 hb) q1).2.trans q1, q2⟩
 | hold vs cs => exact ⟨h.1, fun j c v hcc hv => (h.2 j c v hcc hv).mono hc.I⟩
 | obj b o =>
  obtain ⟨h1, h2, h3⟩ := h;obtain ⟨e1, e2⟩ := hk b k (yW h1) h2;exact ⟨e1.trans h1, e2.trans h2, h3⟩
 | yld j on => exact absurd rfl (hy j on)
 | mpb kenc venc l =>
  obtain ⟨b, es, ck, h1, h2, h3, h4, h5, h6⟩ := h;obtain ⟨e1, e2⟩ := hk b k (yW h4) h2;exact ⟨b, es, ck, h1, e2.trans h2, h3, e1.trans h4, h5, fun i e p he hp => ⟨(h6 i e p he hp).1.mono hc.I, (h6 i e p he hp).2.mono hc.I⟩⟩
 | dead => trivial
theorem Dfs.chg {C : Ctx} {g : Gh} {w : World} {I' : Im} {O' : Owns} {w' : World} {ds : List Deferred} (h : Dfs C g ds w) (hc : Chg C.ds g.I g.O w I' O' w') : Dfs C ⟨g.ρ, I', O'⟩ ds w' := by
 obtain ⟨D, h1, hn, h2⟩ := h;refine ⟨D, h1, hn, fun r hr => ?_⟩;obtain ⟨h3, h4, h5⟩ := h2 r hr;obtain ⟨e1, e2⟩ := hc.keep r (yW h3) (fun ⟨y, n, _, hm⟩ => by rw [h4] at hm; simp at hm);exact ⟨e1.trans h3, e2.trans h4, h5⟩
theorem Ext.chg {C : Ctx} {g : Gh} {w : World} {I' : Im} {O' : Owns} {w' : World} (h : Ext C g w) (hc : Chg C.ds g.I g.O w I' O' w') : Ext C ⟨g.ρ, I', O'⟩ w' :=
 ⟨Im.le_trans h.I hc.I, hc.os.trans h.os, hc.tape.trans h.tape, hc.output.trans h.output, Nat.le_trans h.drawn hc.drawn, Nat.le_trans h.size hc.size,
  fun b hb hn ho => by
   obtain ⟨h1, h2⟩ := h.keep b hb hn ho;obtain ⟨e1, e2⟩ := hc.keep b (Nat.lt_of_lt_of_le hb h.size) (fun ⟨y, n, hy, hm⟩ => ho ⟨y, n, hy, by rw [← h2]; exact hm⟩);exact ⟨e1.trans h1, e2.trans h2⟩,
  fun b y n hb hy => by
   obtain ⟨n', hn'⟩ := hc.own b y n (Nat.lt_of_lt_of_le hb h.size) hy;exact h.own b y n' hb hn'⟩
def yOk : List (Nat × Blk) -> Bool
 | [] => true
 | (k, .yld _ _) :: r => k.beq yN && yOk r
 | (k, _) :: r => !(k.beq yN) && yOk r
theorem zoE : ∀ {h : List (Nat × Blk)}, yOk h = true -> ∀ {k : Nat} {B : Blk}, k ≠ yN -> lk h k = some B -> ∀ j on, B ≠ .yld j on
 | [], _, _, _, _, e, _, _ => by simp [lk] at e
 | (k', B') :: r, h, k, B, hk, e, j, on => by
  simp only [yj] at e;have hr : yOk r = true := by cases B' <;> simp [yOk] at h <;> exact h.2
  cases hb : k'.beq k <;> simp [hb] at e
  ·exact zoE hr hk e j on
  ·have : k' = k := by simpa using hb
   subst this; subst e;cases B' <;> first | (simp; done) | (simp [yOk] at h; exact absurd h.1 hk)
theorem zkh {C : Ctx} {st : St} {g : Gh} {a : Act} {w : World} {args : Array Operand} : (args.toList.map a.eval).toArray = args.map a.eval := by simp [← Array.toList_map]
theorem zki {P : Program} {C : Ctx} {st : St} {ty : TypeId} {l : Nat} {xs : List (List AV)} (hY : yx P l C.ds C.Y xs) {fop : Operand} {args : Array Operand} {ts : Array TypeId} {j : Nat} {ys as : List AV} (hf : ev st fop = some (.yv l)) (hx : evs st args.toList = some ys)
 (hn : AV.nm.nmL ys = true) (hle : LeL ys as) (hj : lk st.h yN = some (.yld j true)) (hyo : yOk st.h = true) (hxs : xs[j]? = some as) {dst : Option Tmp} (hd : dOk C.n dst = true) {g : Gh} {a : Act} {w : World} (pos : String) (af : Array Edge) (gd : Option (Nat × Bool)) (hr : Rel C st g a w) {K : Act -> World -> Prop}
 (hK : ∀ (b : Bool) a' w' g', Rel C ⟨consT dst (.bool b) st.t, (yN, .yld (bif b then j + 1 else j) b) :: st.h⟩ g' a' w' -> K a' w') :
 wp1 P { dst := dst, op := .call { callee := .value fop, args := args, argTypes := ts }, type := ty, pos := pos, after := af, guard := gd } a w K := by
 have e : a.eval fop = .func (.yield l) #[] #[] := by
  have := yn hr hf;generalize a.eval fop = v at this;cases this; rfl
 have hargs : RVL g.I noNames as (args.toList.map a.eval) := hle.rvl ((zdG hr hx).forget hn);obtain ⟨hd1, hd2, hd3, hd4, hd5⟩ := hr.sat.blk yN _ hj;obtain ⟨fn, tmps, assign, body, w1, hrun, hround⟩ := hY j as hxs g.I g.O w _ hd5 ⟨hr.sat.im, hr.sat.ob⟩ hargs;rw [zkh (C := C) (st := st) (g := g) (w := w)] at hrun
 have e2 : (execOp a.eval { dst := dst, op := .call { callee := .value fop, args := args, argTypes := ts }, type := ty, pos := pos, after := af, guard := gd }).run P w = .ok (.round l fn tmps assign body) w1 := by
  simp only [execOp, resolve, e, Deferred.ofValue, Sem.run_bind, Sem.run_pure, Result.andThen_ok, invoke];simp [hrun]
 unfold wp1;rw [e2];refine RoundIn.mono hround ?_
 rintro e w' ⟨b, I', O', rfl, hY', him', hc⟩
 refine ⟨.bool b, rfl, ?_⟩
 have hsat : Sat C ((yN, .yld (bif b then j + 1 else j) b) :: st.h) ⟨g.ρ, I', O'⟩ w' := ⟨him'.1, him'.2, fun k B hB => by
  simp only [yj] at hB;cases hb : yN.beq k <;> simp [hb] at hB
  ·exact (hr.sat.blk k B hB).chg (zoE hyo (fun e => by subst e; simp at hb) hB) hd1 hc
  ·have : yN = k := by simpa using hb
   subst hB;refine ⟨hd1, hd2, hd3, fun b' n hb' => ?_, hY'⟩;rcases Nat.lt_or_ge b' w.heap.size with hl | hl
   ·obtain ⟨n', hn'⟩ := hc.own b' C.d n hl hb';exact hd4 b' n' hn'
   ·have := hr.ext.size; omega⟩
 have htm : ∀ t x, lk st.t t = some x -> RV I' g.ρ x (a.tmps.getD t undef) := fun t x hx => (hr.tmps t x hx).mono hc.I
 refine hK b (a.put dst (.bool b)) w' ⟨g.ρ, I', O'⟩ ?_;cases dst with
 | none => exact ⟨hr.size, hr.defers.chg hc, htm, hsat, hr.ext.chg hc⟩
 | some d =>
  refine ⟨by simp [Act.put, hr.size], hr.defers.chg hc, fun t x hx => ?_, hsat, hr.ext.chg hc⟩;rw [zaE (by rw [hr.size]; simpa [dOk] using hd)];simp only [consT, yj] at hx;by_cases e : d = t
  ·subst e; simp at hx; rw [if_pos rfl, ← hx]; exact .bool b
  ·have : d.beq t = false := beqF.2 e;simp [this] at hx;rw [if_neg e]; exact htm t x hx
theorem Ex.yield {P : Program} {C : Ctx} {ops : Array Oper} {st : St} {Q : Exit -> St -> Prop} {rest : List Oper} {ty : TypeId} {pos : String} {af : Array Edge} {l : Nat} {xs : List (List AV)} (hY : yx P l C.ds C.Y xs) {fop : Operand} {args : Array Operand} {ts : Array TypeId} {j : Nat} {ys as : List AV} {dst : Option Tmp}
 (hf : ev st fop = some (.yv l)) (hx : evs st args.toList = some ys) (hn : AV.nm.nmL ys = true) (hle : LeL ys as) (hj : lk st.h yN = some (.yld j true)) (hyo : yOk st.h = true) (hxs : xs[j]? = some as) (hd : dOk C.n dst = true)
 (h : ∀ b : Bool, Ex P C ops rest ⟨consT dst (.bool b) st.t, (yN, .yld (bif b then j + 1 else j) b) :: st.h⟩ Q) :
 Ex P C ops ({ dst := dst, op := .call { callee := .value fop, args := args, argTypes := ts }, type := ty, pos := pos, after := af, guard := none } :: rest) st Q := fun g a w hr =>
 wpListIn_plain rfl fun K hK => zK <| zki hY hf hx hn hle hj hyo hxs hd pos af none hr fun b a' w' g' h' => hK _ _ (h b g' a' w' h')
theorem zbl {P : Program} {C : Ctx} {ops : Array Oper} {st : St} {Q : Exit -> St -> Prop} {rest : List Oper} {ty : TypeId} {pos : String} {af : Array Edge} {l : Nat} {xs : List (List AV)} (hY : yx P l C.ds C.Y xs) {fop : Operand} {args : Array Operand} {ts : Array TypeId} {j : Nat} {d i t : Nat} {want c : Bool}
 (hi : (ops[i]?).bind (·.dst) = some t) (hc : lk st.t t = some (.bool c)) (hd : d.blt C.n = true)
 (hyes : (c == want) = true -> ∃ ys as, ev st fop = some (.yv l) /\ evs st args.toList = some ys /\ AV.nm.nmL ys = true /\ LeL ys as /\ lk st.h yN = some (.yld j true) /\ yOk st.h = true /\ xs[j]? = some as ∧
  ∀ b : Bool, Ex P C ops rest ⟨(d, .bool b) :: st.t, (yN, .yld (bif b then j + 1 else j) b) :: st.h⟩ Q)
 (hno : (c == want) = false -> Ex P C ops rest ⟨(d, .any) :: st.t, st.h⟩ Q) :
 Ex P C ops ({ dst := some d, op := .call { callee := .value fop, args := args, argTypes := ts }, type := ty, pos := pos, after := af, guard := some (i, want) } :: rest) st Q := fun g a w hr => by
 have hy : yielded ops a.tmps i = some c := by
  have := zg (hr.tmps t _ hc)
  have e : a.tmps[t]? = some (.bool c) := by
   simp only [Array.getD_eq_getD_getElem?] at this;cases h : a.tmps[t]? with
   | none => rw [h] at this; simp [undef] at this
   | some u => rw [h] at this; simpa using this
  simp [yielded, hi, e]
 unfold wpListIn;cases hw : (c == want) with
 | true =>
  have hwant : Region.wanted { dst := some d, op := .call { callee := .value fop, args := args, argTypes := ts }, type := ty, pos := pos, after := af, guard := some (i, want) } (yielded ops a.tmps) = true := by
   simp only [Region.wanted, hy]; exact hw
  rw [if_pos hwant];obtain ⟨ys, as, h1, h2, h3, h4, h5, h6, h7, h8⟩ := hyes hw;exact zK (zki hY h1 h2 h3 h4 h5 h6 h7 (dst := some d) (by simpa [dOk] using hd) pos af _ hr fun b a' w' g' h' => h8 b g' a' w' h')
 | false =>
  have hwant : Region.wanted { dst := some d, op := .call { callee := .value fop, args := args, argTypes := ts }, type := ty, pos := pos, after := af, guard := some (i, want) } (yielded ops a.tmps) = false := by
   simp only [Region.wanted, hy]; simpa using hw
  rw [if_neg (by rw [hwant]; simp)];exact ⟨fun f _ => C.F_fn f, hno hw g _ w (hr.addSt (d := some d) (nb := none) (Add.refl _ g w) (by simpa [dOk] using hd) rfl (.any _) hr.sat.im hr.sat.ob (fun _ _ h => by cases h))⟩
def ItQ (n : Nat) (e : Exit) (st : St) : Prop := (e = .normal \/ e = .ret) /\ ∃ j on, lk st.h yN = some (.yld j on) /\ (on = true -> j = n)
abbrev C1 (n d : Nat) (ds : List Nat) (Y : Nat -> Bool -> Im -> Owns -> World -> Prop) (g : Gh) (w : World) : Ctx := ⟨none, n, d, ds, w.heap.size, Y, g, w, []⟩
theorem It.intro {P : Program} {f : FuncId} {fn : Func} {c : Code} {n : Nat} {caps : List AV} {ts : Nat -> List (Nat × AV)} {xs : List (List AV)} (hc : zZ P f = true) (hf : P.funcs[f]? = some fn) (hb : fn.body = some c) (hn : fn.ntmps = n) (hrv : fn.results = #[])
 (hts : ∀ l, zaQ 0 (.yv l :: caps) = ts l) (hlen : caps.length + 1 <= n) (h : ∀ g w d ds Y l, yx P l ds Y xs -> X P (C1 n d ds Y g w) c ⟨ts l, [(yN, .yld 0 true)]⟩ (ItQ xs.length)) : It P f caps xs := by
 refine ⟨hc, fun ds l Y I O w us him hus hcl hY hstep => (callsIn_wide (n := 0)).1 (callsIn_of_wp_marks hf hb trivial ?_)⟩;obtain ⟨d, hd, hdd⟩ := zb8 O w.heap.size ds him.2.1;let C := C1 n d ds Y ⟨noNames, I, O⟩ w
 have hargs : RVL I noNames (.yv l :: caps) (Value.func (.yield l) #[] #[] :: us) := ⟨by simp [hus.1], fun j c v hc hv => by
  cases j with
  | zero => simp at hc hv; subst hc; subst hv; exact .yv l
  | succ j => exact hus.2 j c v (by simpa using hc) (by simpa using hv)⟩
 have hrel0 := zd8 (C := C) (I := I) (O := O) (m := fn.ntmps) rfl rfl hn (by simpa using hlen) him hargs;rw [hts l] at hrel0;have hrel := hrel0.withBlk (k := yN) (B := .yld 0 true) ⟨hdd, hcl, Nat.le_refl _, fun b m hm => absurd hm (hd b m), hY⟩;refine wpIn_mono (h _ w d ds Y l hstep _ _ w hrel) ?_
 rintro e a w' ⟨st, g1, hr1, he, j, on, hj, hon⟩
 obtain ⟨hd1, hd2, hd3, hd4, hd5⟩ := hr1.sat.blk yN _ hj
 have hfin : LeavesInM Fence.wide 0 P fn a.tmps (fun e w' => ∃ v j on I' O', e = .returned v /\ (on = true -> j = xs.length) /\ Y j on I' O' w' /\ ImO I' O' w' /\ Chg ds I O w I' O' w') a.defers .returning w' := by
  obtain ⟨D, hD, hnd, hDr⟩ := hr1.defers;refine zap (C := C) (r := .tup []) (rv := []) (by simpa using hrv) (.many (by simp) .nil) rfl (fun g3 w3 v hr3 hv => ?_) D hD.plain hnd hDr ⟨hr1.size, Dfs.nil _ _ _, hr1.tmps, hr1.sat, hr1.ext⟩;obtain ⟨hd1, hd2, hd3, hd4, hd5⟩ := hr3.sat.blk yN _ hj
  have hnk : ∀ b, b < w.heap.size -> ¬ C.okb b := fun b hb hk => by
   rcases hk with hk | ⟨m, hk⟩
   ·simp [C] at hk; omega
   ·exact hd b m hk
  exact ⟨v, j, on, g3.I, g3.O, rfl, hon, hd5, ⟨hr3.sat.im, hr3.sat.ob⟩, ⟨hr3.ext.I, hr3.ext.os, hr3.ext.tape, hr3.ext.output, hr3.ext.drawn, hr3.ext.size, fun b hb hno => hr3.ext.keep b hb (hnk b hb) hno, hr3.ext.own⟩⟩
 rcases he with rfl | rfl <;> exact hfin
end Go.Rse
namespace Go.Rse
open Go Go.RowKit
abbrev Ctx.rnd (C : Ctx) (l : Nat) (g : Gh) (w : World) : Ctx := ⟨some l, C.n, C.d, C.ds, C.yB, C.Y, g, w, []⟩
theorem Ext.trans {C : Ctx} {l : Nat} {g g' : Gh} {w w' : World} (h : Ext C g w) (h' : Ext (C.rnd l g w) g' w') : Ext C g' w' :=
 ⟨Im.le_trans h.I h'.I, h'.os.trans h.os, h'.tape.trans h.tape, h'.output.trans h.output, Nat.le_trans h.drawn h'.drawn, Nat.le_trans h.size h'.size, fun b hb hn ho => by
  obtain ⟨h1, h2⟩ := h.keep b hb hn ho;have hlt := Nat.lt_of_lt_of_le hb h.size
  obtain ⟨h3, h4⟩ := h'.keep b hlt (fun hk => by
   rcases hk with hk | ⟨n, hk⟩
   ·exact absurd hk (Nat.not_le.2 hlt)
   ·exact hn (.inr ⟨n, by rw [← h2]; exact hk⟩)) (fun ⟨y, n, hy, hm⟩ => ho ⟨y, n, hy, by rw [← h2]; exact hm⟩)
  exact ⟨h3.trans h1, h4.trans h2⟩,
  fun b y n hb hy => by
   obtain ⟨n', hn'⟩ := h'.own b y n (Nat.lt_of_lt_of_le hb h.size) hy;exact h.own b y n' hb hn'⟩
theorem y4.into {C : Ctx} {l : Nat} {g g0 : Gh} {w w0 : World} {k : Nat} {B : Blk} (h : y4 C g w k B) (hO : ∀ b n, g.O b = some (C.d, n) -> (C.rnd l g0 w0).okb b) (hs : C.yB <= C.w0.heap.size -> C.yB <= w0.heap.size) : y4 (C.rnd l g0 w0) g w k B := by
 cases B with
 | box cs E => obtain ⟨b, vs, h1, h2, h3, h4⟩ := h; exact ⟨b, vs, h1, h2, hO b k h2, h4⟩
 | row enc l E s => obtain ⟨xs, h1, h2, h3, h4⟩ := h; exact ⟨xs, h1, h2, h3, fun b hb => ⟨(h4 b hb).1, hO b k (h4 b hb).1⟩⟩
 | hold vs cs => exact h
 | obj b o => obtain ⟨h1, h2, h3⟩ := h; exact ⟨h1, h2, hO b k h2⟩
 | yld j on => obtain ⟨h1, h2, h3, h4⟩ := h; exact ⟨h1, h2, hs h3, h4⟩
 | mpb kenc venc l => obtain ⟨b, es, ck, h1, h2, h3, h4⟩ := h; exact ⟨b, es, ck, h1, h2, hO b k h2, h4⟩
 | dead => trivial
theorem y4.outof {C : Ctx} {l : Nat} {g g0 : Gh} {w w0 : World} {k : Nat} {B : Blk} (h : y4 (C.rnd l g0 w0) g w k B) (hO : ∀ b n, g.O b = some (C.d, n) -> C.okb b) (hs : C.yB <= w0.heap.size -> C.yB <= C.w0.heap.size) : y4 C g w k B := by
 cases B with
 | box cs E => obtain ⟨b, vs, h1, h2, h3, h4⟩ := h; exact ⟨b, vs, h1, h2, hO b k h2, h4⟩
 | row enc l E s => obtain ⟨xs, h1, h2, h3, h4⟩ := h; exact ⟨xs, h1, h2, h3, fun b hb => ⟨(h4 b hb).1, hO b k (h4 b hb).1⟩⟩
 | hold vs cs => exact h
 | obj b o => obtain ⟨h1, h2, h3⟩ := h; exact ⟨h1, h2, hO b k h2⟩
 | yld j on => obtain ⟨h1, h2, h3, h4⟩ := h; exact ⟨h1, h2, hs h3, h4⟩
 | mpb kenc venc l => obtain ⟨b, es, ck, h1, h2, h3, h4⟩ := h; exact ⟨b, es, ck, h1, h2, hO b k h2, h4⟩
 | dead => trivial
theorem Ext.okb {C : Ctx} {g : Gh} {w : World} (h : Ext C g w) : ∀ b n, g.O b = some (C.d, n) -> C.okb b := fun b n hO => by
 rcases Nat.lt_or_ge b C.w0.heap.size with hl | hl
 ·obtain ⟨n', hn'⟩ := h.own b C.d n hl hO;exact .inr ⟨n', hn'⟩
 ·exact .inl hl
def zipT : List Nat -> List AV -> List (Nat × AV)
 | s :: r, x :: q => (s, x) :: zipT r q
 | _, _ => []
theorem zmf : ∀ {sl : List Nat} {xs : List AV} {t : Nat} {x : AV}, lk (zipT sl xs) t = some x -> ∃ j : Nat, sl[j]? = some t /\ xs[j]? = some x
 | [], _, _, _, h => by simp [zipT, lk] at h
 | _ :: _, [], _, _, h => by simp [zipT, lk] at h
 | s :: r, y :: q, t, x, h => by
  simp only [zipT, yj] at h;cases hb : s.beq t <;> simp [hb] at h
  ·obtain ⟨j, h1, h2⟩ := zmf h;exact ⟨j + 1, by simpa using h1, by simpa using h2⟩
  ·have : s = t := by simpa using hb
   exact ⟨0, by simp [this], by simp [h]⟩
def RndQ (P : Program) (C : Ctx) (l : Nat) (g : Gh) (w : World) (busy : Obj) (lN hN : Nat) (vs : List Value) (sl : List Nat) (nxt : List AV × List (Nat × Blk)) (Jn : Prop) (Q : Exit -> St -> Prop) (e : Exit) (st : St) : Prop :=
 ∃ (tv : List AV) (hs : List (Nat × Blk)), Imp (C.rnd l g w) st ⟨[], (hN, .hold vs tv) :: (lN, .obj l busy) :: hs⟩ ∧
  match e with
  | .normal => (tv, hs) = nxt /\ Jn
  | .ret => Q .ret ⟨zipT sl tv, (lN, .dead) :: (hN, .dead) :: hs⟩
  | .exit id => Q (.exit id) ⟨zipT sl tv, (lN, .dead) :: (hN, .dead) :: hs⟩
  | _ => False
def zhx : List Tmp -> List AV -> List (Nat × AV) -> List (Nat × AV)
 | t :: r, x :: q, s => zhx r q ((t, x) :: s)
 | _, _, s => s
theorem zkj {I : Im} {ρ : Nat -> Value} : ∀ {ps : List Tmp} {as : List AV} {vs : List Value} {s : List (Nat × AV)} {tm : Array Value}, ps.length = as.length -> RVL I ρ as vs -> (∀ p ∈ ps, p < tm.size) -> (∀ t x, lk s t = some x -> RV I ρ x (tm.getD t undef)) →
 ∀ t x, lk (zhx ps as s) t = some x -> RV I ρ x (((ps.zip vs).foldl (fun tm (t, a) => tm.setIfInBounds t a) tm).getD t undef)
 | [], [], vs, s, tm, _, _, _, h => by simpa [zhx] using h
 | p :: r, y :: q, vs, s, tm, hl, hv, hp, h => by
  obtain ⟨h1, h2⟩ := hv;cases vs with
  | nil => simp at h1
  | cons v us =>
   simp only [zhx, List.zip_cons_cons, List.foldl_cons];refine zkj (by simpa using hl) ⟨by simpa using h1, fun j c u hc hu => h2 (j + 1) c u (by simpa using hc) (by simpa using hu)⟩ (fun p' hp' => by simpa using hp p' (by simp [hp'])) (fun t x hx => ?_);simp only [yj] at hx;have hlt := hp p (by simp);simp only [Array.getD_eq_getD_getElem?, Array.getElem?_setIfInBounds];by_cases e : p = t
   ·subst e;simp at hx;subst hx;simp [hlt];exact h2 0 _ v (by simp) (by simp)
   ·have hb : Nat.beq p t = false := beqF.2 e;rw [hb] at hx;simp only [cond_false] at hx;rw [if_neg e];simpa [Array.getD_eq_getD_getElem?] using h t x hx
 | [], _ :: _, _, _, _, hl, _, _, _ => by simp at hl
 | _ :: _, [], _, _, _, hl, _, _, _ => by simp at hl
theorem zhy : ∀ (l : List (Tmp × Value)) (tm : Array Value), (l.foldl (fun tm (t, a) => tm.setIfInBounds t a) tm).size = tm.size
 | [], tm => rfl
 | (t, a) :: r, tm => by simp only [List.foldl_cons]; rw [zhy r]; simp
theorem Rel.putObj {C : Ctx} {st : St} {g : Gh} {a : Act} {w : World} (h : Rel C st g a w) {k b : Nat} {o o' : Obj} (hk : lk st.h k = some (.obj b o)) : Rel C (putH st k (.obj b o')) g a (w.putObj b o') := by
 obtain ⟨h1, h2, h3⟩ := h.sat.blk k _ hk;refine h.modify h2 h3 ⟨rfl, rfl, rfl, by simp, fun j hj hne => World.putObj_heap_other (by simpa using hne)⟩ (Nat.le_refl _) ⟨World.putObj_heap_same (yW h1), h2, h3⟩
theorem Rel.outof {C : Ctx} {l lN hN : Nat} {o : Obj} {vs : List Value} {tv : List AV} {sl : List Nat} {hs : List (Nat × Blk)} {st0 : St} {g g2 : Gh} {a1 a2 : Act} {w w2 : World} (h0 : Rel C st0 g a1 w)
 (h : Rel (C.rnd l g w) ⟨[], (hN, .hold vs tv) :: (lN, .obj l o) :: hs⟩ g2 a2 w2) (hne : hN ≠ lN) (hvs : vs = sl.map fun t => a1.tmps.getD t undef) (hyB : C.yB <= C.w0.heap.size) : Rel C ⟨zipT sl tv, (lN, .obj l o) :: (hN, .dead) :: hs⟩ g2 a1 w2 := by
 have hext : Ext C g2 w2 := h0.ext.trans h.ext;refine ⟨h0.size, ?_, fun t x hx => ?_, ⟨h.sat.im, h.sat.ob, fun k B hB => ?_⟩, hext⟩
 ·obtain ⟨D, h1, hn, h2⟩ := h0.defers;refine ⟨D, h1, hn, fun r hr => ?_⟩;obtain ⟨h3, h4, h5⟩ := h2 r hr
  obtain ⟨e1, e2⟩ := h.ext.keep r (yW h3) (fun hk => by
   rcases hk with hk | ⟨n, hk⟩
   ·exact absurd hk (Nat.not_le.2 (yW h3))
   ·have hk : g.O r = some (C.d, n) := hk;rw [h4] at hk; simp at hk) (fun ⟨y, n, _, hm⟩ => by
    have hm : g.O r = some (y, n) := hm;rw [h4] at hm; simp at hm)
  exact ⟨e1.trans h3, e2.trans h4, h5⟩
 ·obtain ⟨j, h1, h2⟩ := zmf hx;obtain ⟨p1, p2⟩ := h.sat.blk hN (.hold vs tv) (by simp [yj]);refine p2 j x _ h2 ?_;rw [hvs, List.getElem?_map, h1]; rfl
 ·have hB' : B = .dead \/ lk ((hN, .hold vs tv) :: (lN, .obj l o) :: hs) k = some B := by
   simp only [yj] at hB ⊢;cases hb : lN.beq k
   ·simp only [hb, cond_false] at hB;cases hb2 : hN.beq k
    ·simp only [hb2, cond_false] at hB; simp [hB]
    ·simp only [hb2, cond_true] at hB; injection hB with hB; exact .inl hB.symm
   ·have : lN = k := by simpa using hb
    subst this;have : hN.beq lN = false := beqF.2 hne;simp only [hb, cond_true] at hB;simp [this, hB]
  rcases hB' with rfl | hB'
  ·trivial
  ·exact (h.sat.blk k B hB').outof hext.okb (fun _ => hyB)
theorem Rel.kept {C : Ctx} {st : St} {ρ : Nat -> Value} {I I' : Im} {O O' : Owns} {a : Act} {w w' : World} {B : Nat} (h : Rel C st ⟨ρ, I, O⟩ a w) (hI : Im.le I I') (hk : ∀ b, b < w.heap.size -> (b < B \/ ∃ y n, y ∈ C.d :: C.ds /\ O b = some (y, n)) -> w'.heap[b]? = w.heap[b]? /\ O' b = O b)
 (h1 : w'.os = w.os) (h2 : w'.tape = w.tape) (h3 : w'.output = w.output) (h5 : w.drawn <= w'.drawn) (h4 : w.heap.size <= w'.heap.size) (hio : ImO I' O' w') (hm : ∀ r, mkD r ∈ a.defers -> r < B) (hB : C.w0.heap.size <= B) : Rel C st ⟨ρ, I', O'⟩ a w' := by
 have hd : ∀ b n, b < w.heap.size -> O b = some (C.d, n) -> w'.heap[b]? = w.heap[b]? /\ O' b = O b := fun b n hb hO => hk b hb (.inr ⟨C.d, n, by simp, hO⟩)
 refine ⟨h.size, ?_, fun t x hx => (h.tmps t x hx).mono hI, ⟨hio.1, hio.2, fun k B' hB' => ?_⟩, ?_⟩
 ·obtain ⟨D, p1, hn, p2⟩ := h.defers;refine ⟨D, p1, hn, fun r hr => ?_⟩;obtain ⟨p3, p4, p5⟩ := p2 r hr;obtain ⟨e1, e2⟩ := hk r (yW p3) (.inl (hm r (p1.mem.2 hr)));exact ⟨e1.trans p3, e2.trans p4, p5⟩
 ·have h0 := h.sat.blk k B' hB';cases B' with
  | box cs E =>
   obtain ⟨b, vs, q1, q2, q3, q4, q5, q6⟩ := h0;obtain ⟨e1, e2⟩ := hd b k (yW q4) q2;exact ⟨b, vs, q1, e2.trans q2, q3, e1.trans q4, q5, fun j c v hcc hv => (q6 j c v hcc hv).mono hI⟩
  | row enc l E s =>
   obtain ⟨xs, q1, q2, q3, q4⟩ := h0;refine ⟨xs, ?_, q2, fun i x j c v hx hcc hv => (q3 i x j c v hx hcc hv).mono hI, fun b hb => ?_⟩
   ·obtain ⟨p1, p2⟩ := q1;refine ⟨p1, ?_⟩;rcases p2 with p2 | ⟨b, cap, cur, hv, hb, hh, r⟩
    ·exact .inl p2
    ·have := q4 b (by rw [hv]; rfl);exact .inr ⟨b, cap, cur, hv, hb, (hd b k (yW hh) this.1).1.trans hh, r⟩
   ·obtain ⟨r1, r2⟩ := q4 b hb;exact ⟨(hd b k (zbk q1 hb) r1).2.trans r1, r2⟩
  | hold vs cs => exact ⟨h0.1, fun j c v hcc hv => (h0.2 j c v hcc hv).mono hI⟩
  | obj b o =>
   obtain ⟨q1, q2, q3⟩ := h0;obtain ⟨e1, e2⟩ := hd b k (yW q1) q2;exact ⟨e1.trans q1, e2.trans q2, q3⟩
  | yld j on =>
   obtain ⟨q1, q2, q3, q4, q5⟩ := h0;refine ⟨q1, q2, q3, fun b n hn => ?_, q2 j on _ _ _ _ _ _ q5 hI (fun b hb hy => hk b hb ?_) h1 h2 h3 h5 h4 hio⟩
   ·rcases Nat.lt_or_ge b C.yB with hl | hl
    ·have hbw : b < w.heap.size := by have := h.ext.size; omega
     have e := (hk b hbw (.inl (by omega))).2;exact q4 b n (e.symm.trans hn)
    ·exact hl
   ·rcases hy with hy | ⟨y, n, hy, hm⟩
    ·exact .inl (by omega)
    ·exact .inr ⟨y, n, by simp [hy], hm⟩
  | mpb kenc venc l =>
   obtain ⟨b, es, ck, q1, q2, q3, q4, q5, q6⟩ := h0;obtain ⟨e1, e2⟩ := hd b k (yW q4) q2;exact ⟨b, es, ck, q1, e2.trans q2, q3, e1.trans q4, q5, fun i e p he hp => ⟨(q6 i e p he hp).1.mono hI, (q6 i e p he hp).2.mono hI⟩⟩
  | dead => trivial
 ·refine ⟨Im.le_trans h.ext.I hI, h1.trans h.ext.os, h2.trans h.ext.tape, h3.trans h.ext.output, Nat.le_trans h.ext.drawn h5, Nat.le_trans h.ext.size h4, fun b hb hn ho => ?_, fun b y n hb hy => ?_⟩
  ·obtain ⟨p1, p2⟩ := h.ext.keep b hb hn ho;obtain ⟨e1, e2⟩ := hk b (Nat.lt_of_lt_of_le hb h.ext.size) (.inl (by omega));exact ⟨e1.trans p1, e2.trans p2⟩
  ·have e2 := (hk b (Nat.lt_of_lt_of_le hb h.ext.size) (.inl (by omega))).2;exact h.ext.own b y n hb (e2.symm.trans hy)
theorem Rel.drop2 {C : Ctx} {t : List (Nat × AV)} {k : Nat} {B1 B2 : Blk} {h : List (Nat × Blk)} {g : Gh} {a : Act} {w : World} (hr : Rel C (putH (putH ⟨t, (k, B1) :: h⟩ k B2) k .dead) g a w) : Rel C ⟨t, (k, .dead) :: h⟩ g a w := by
 refine ⟨hr.size, hr.defers, hr.tmps, ⟨hr.sat.im, hr.sat.ob, fun k' B hB => hr.sat.blk k' B ?_⟩, hr.ext⟩;simp only [putH, yj] at hB ⊢;cases hb : k.beq k' <;> simp [hb] at hB ⊢ <;> exact hB
def zoF : Exit -> Option Code
 | .ret => some .ret
 | .exit id => some (.exit id)
 | _ => none
def RdOk (C : Ctx) (st : St) : Prop := match C.rd with
 | none => True
 | some l0 => ∃ k0 r0, lk st.h k0 = some (.obj l0 (.loop r0))
section
variable {P : Program} {C : Ctx} {st : St} {Q : Exit -> St -> Prop}
theorem Rel.enter {g : Gh} {a : Act} {w : World} (hr : Rel C st g a w) (hrd : RdOk C st) {lN hN : Nat} (hl : st.fr lN = true) (hh : st.fr hN = true) (hne : hN ≠ lN) (fn : FuncId) (ps : Array Tmp) (assign body : Code) :
 ∃ l mark w1 g1 dfs, (Instr.enterLoop fn a.tmps ps assign body C.F.round).run P w = .ok (l, mark) w1 ∧
  Rel C ⟨st.t, (lN, .obj l (.loop { state := .ready, pending := none, fn, tmps := a.tmps, params := ps, assign, body, defers := dfs })) :: (hN, .dead) :: st.h⟩ g1 { a with defers := mark ++ a.defers } w1 := by
 -- the record alone
 have key : ∀ (g : Gh) (a' : Act) (w : World) (dfs : Nat), Rel C st g a' w -> a'.tmps = a.tmps →
  Rel C ⟨st.t, (lN, .obj w.heap.size (.loop { state := .ready, pending := none, fn, tmps := a.tmps, params := ps, assign, body, defers := dfs })) :: (hN, .dead) :: st.h⟩
   (g.nw C.d w.heap.size lN .nilIface) a' (w.alloc (.loop { state := .ready, pending := none, fn, tmps := a.tmps, params := ps, assign, body, defers := dfs })) := by
  intro g a' w dfs hr ha;generalize ho : Obj.loop { state := .ready, pending := none, fn, tmps := a.tmps, params := ps, assign, body, defers := dfs } = o;have hadd := Add.nw (g := g) (Grow.alloc w o) C.d lN .nilIface;have hio := ImOB.nw (g := g) ⟨hr.sat.im, hr.sat.ob⟩ (Grow.alloc w o) (by simp) C.d lN .nilIface;have h1 := hr.add (d := none) (x := .any) (v := .nilIface) hadd (fun k hk => by injection hk with hk; subst hk; exact hl) (fun t h => by simp at h) (.any _) hio.1 hio.2;exact (h1.withBlk (k := hN) (B := .dead) trivial).withBlk (k := lN) (B := .obj w.heap.size o) ⟨heap_alloc_new w _, by simp [Gh.nw], .inl hr.ext.size⟩
 unfold RdOk at hrd;cases hC : C.rd with
 | none =>
  have hF : C.F.round = none := by unfold Ctx.F; rw [hC]; rfl
  rw [hF];have hgr := Grow.alloc w (.deferred (some []))
  have h1 : Rel C st g { a with defers := mkD w.heap.size :: a.defers } (w.alloc (.deferred (some []))) := by
   have hadd : Add none g w g (w.alloc (.deferred (some []))) := ⟨Im.le_refl _, fun _ _ => rfl, fun _ _ => rfl, hgr⟩;have hr0 := hr.add (d := none) (x := .any) (v := .nilIface) hadd (fun k h => by simp at h) (fun t h => by simp at h) (.any _) (fun b o u hI => ⟨hgr.cell (hr.sat.im b o u hI).1, (hr.sat.im b o u hI).2⟩) (hr.sat.ob.up (Im.le_refl _) hgr.size);refine ⟨hr0.size, ?_, hr0.tmps, hr0.sat, hr0.ext⟩;obtain ⟨D, p1, hn, p2⟩ := hr0.defers;obtain ⟨D', q1, hn', q2⟩ := hr.defers;refine ⟨w.heap.size :: D, p1.push _, List.nodup_cons.2 ⟨fun hm => ?_, hn⟩, fun r hrm => ?_⟩
   ·have := yW (q2 _ (q1.mem.1 (p1.mem.2 hm))).1; omega
   ·rcases List.mem_cons.1 hrm with rfl | hrm
    ·refine ⟨heap_alloc_new w _, ?_, hr.ext.size⟩;cases hO : g.O w.heap.size with
     | none => rfl
     | some k => have := hr.sat.ob.1 _ k hO; omega
    ·exact p2 r hrm
  have h2 := key g _ _ w.heap.size h1 rfl;exact ⟨_, _, _, _, w.heap.size, run_enterLoop_outer fn a.tmps ps assign body, by simpa [mkD] using h2⟩
 | some l0 =>
  rw [hC] at hrd;obtain ⟨k0, r0, hk0⟩ := hrd;have hF : C.F.round = some l0 := by unfold Ctx.F; rw [hC]; rfl
  rw [hF];have hb := (hr.sat.blk k0 _ hk0).1;exact ⟨_, _, _, _, r0.defers, run_enterLoop_inner hb fn a.tmps ps assign body, by simpa using key g a w r0.defers hr rfl⟩
theorem X.range {gop : Operand} {ps : Array Tmp} {assign body : Code} {f : FuncId} {caps caps' : List AV} {xs : List (List AV)} {sl : List Nat} (B : Nat -> List AV × List (Nat × Blk)) (J : Nat -> Prop) (lN hN : Nat)
 (hg : ev st gop = some (.fn f caps)) (hnm : AV.nm.nmL caps' = true) (hsl : sl.Nodup) (hxn : ∀ (j : Nat) (as : List AV), xs[j]? = some as -> AV.nm.nmL as = true) (hit : It P f caps' xs) (hrd : RdOk C st) (hl : st.fr lN = true) (hh : st.fr hN = true) (hne : hN ≠ lN) (hyB : C.yB <= C.w0.heap.size)
 (hps : ∀ p ∈ ps.toList, p < C.n) (hpl : ∀ (j : Nat) (as : List AV), xs[j]? = some as -> ps.toList.length = as.length) (hB : ∀ j, (B j).1.length = sl.length) (hlf : AV.fr.frL lN caps = true) (hhf : AV.fr.frL hN caps = true)
 (h0 : ∀ l o us, Imp C ⟨st.t, (hN, .hold us caps) :: (lN, .obj l o) :: (hN, .dead) :: st.h⟩ ⟨zipT sl (B 0).1, (hN, .hold us caps') :: (lN, .obj l o) :: (B 0).2⟩)
 (hJ0 : J 0) (hrnd : ∀ (j : Nat) (as : List AV), xs[j]? = some as -> J j -> ∀ (l : Nat) (ready busy : Obj) (rb : Loop) (vs : List Value) g w, busy = .loop rb -> C.yB <= w.heap.size -> X P (C.rnd l g w) assign ⟨zhx ps.toList as (zipT sl (B j).1), (hN, .hold vs (B j).1) :: (lN, .obj l ready) :: (B j).2⟩
  (fun e st1 => e = .normal /\ lk st1.h lN = some (.obj l ready) /\ X P (C.rnd l g w) body (putH st1 lN (.obj l busy)) (RndQ P C l g w busy lN hN vs sl (B (j + 1)) (J (j + 1)) Q)))
 (hend : J xs.length -> Q .normal ⟨zipT sl (B xs.length).1, (lN, .dead) :: (hN, .dead) :: (B xs.length).2⟩) : X P C (.rangeFunc gop ps assign body) st Q := fun g a w hr => by
 refine wpIn_rangeFunc fun fn hfn => ?_
 obtain ⟨l, mark, w1, g1, dfs, henter, hr1⟩ := hr.enter (P := P) hrd hl hh hne fn ps assign body;obtain ⟨us, e, hul, hu⟩ := zb2 (yn hr hg)
 have hu1 : RVL g1.I g1.ρ caps us := by
  have hg' : ev ⟨st.t, (lN, .obj l (.loop { state := .ready, pending := none, fn, tmps := a.tmps, params := ps, assign, body, defers := dfs })) :: (hN, .dead) :: st.h⟩ gop = some (.fn f caps) := by
   cases gop <;> exact hg
  obtain ⟨us', e', hul', hu'⟩ := zb2 (yn hr1 hg');have e1 : ∀ x : Operand, Act.eval { a with defers := mark ++ a.defers } x = a.eval x := fun x => by cases x <;> rfl
  rw [e1, e] at e';have : us = us' := by simpa using e'
  subst this;exact ⟨hul', hu'⟩
 obtain ⟨g2, hr2⟩ := h0 l _ us g1 _ _ (hr1.withBlk (k := hN) (B := .hold us caps) hu1);have hus : RVL g2.I noNames caps' us := RVL.forget (hr2.sat.blk hN (.hold us caps') (by simp [yj])) hnm;have hnl : hN.beq lN = false := beqF.2 hne
 -- the state at a boundary
 let rec0 : Loop := { state := .ready, pending := none, fn, tmps := a.tmps, params := ps, assign, body, defers := dfs };let a1 : Act := { a with defers := mark ++ a.defers }
 let Y : Nat -> Bool -> Im -> Owns -> World -> Prop := fun j on I O w => ∃ ρ, match on with
  | true => J j /\ Rel C ⟨zipT sl (B j).1, (lN, .obj l (.loop rec0)) :: (hN, .dead) :: (B j).2⟩ ⟨ρ, I, O⟩ a1 w
  | false => ∃ e jc tv hs, zoF e = some jc /\ Rel C ⟨zipT sl tv, (lN, .obj l (.loop { rec0 with state := .done, pending := some jc })) :: (hN, .dead) :: hs⟩ ⟨ρ, I, O⟩ a1 w /\ Q e ⟨zipT sl tv, (lN, .dead) :: (hN, .dead) :: hs⟩
 have hY0 : Y 0 true g2.I g2.O w1 := ⟨g2.ρ, hJ0, by
  refine ⟨hr2.size, hr2.defers, hr2.tmps, ⟨hr2.sat.im, hr2.sat.ob, fun k B' hB' => ?_⟩, hr2.ext⟩;simp only [yj] at hB';cases hb : lN.beq k
  ·cases hb2 : hN.beq k
   ·exact hr2.sat.blk k B' (by simpa [yj, hb, hb2] using hB')
   ·have : B' = .dead := by simpa [hb, hb2] using hB'.symm
    subst this; trivial
  ·have : lN = k := by simpa using hb
   subst this;exact hr2.sat.blk lN B' (by simpa [yj, hnl] using hB')⟩
 have hmk : ∀ r, mkD r ∈ a1.defers -> r < w1.heap.size := fun r hrm => by
  obtain ⟨D, p1, _, p2⟩ := hr2.defers;have hrm : mkD r ∈ D.map mkD := List.mem_map_of_mem (p1.mem.1 hrm);obtain ⟨r', hr', er⟩ := List.mem_map.1 hrm;have : r' = r := by simpa [mkD] using er
  subst this;exact yW (p2 r' hr').1
 have hYc : YCl Y (C.d :: C.ds) w1.heap.size := by
  intro j on I O w I' O' w' hY hI hk h1 h2 h3 h5 h4 hio;cases on with
  | true => obtain ⟨ρ, hJ, hR⟩ := hY; exact ⟨ρ, hJ, hR.kept hI hk h1 h2 h3 h5 h4 hio hmk hr2.ext.size⟩
  | false => obtain ⟨ρ, e, jc, tv, hs, q1, hR, q2⟩ := hY; exact ⟨ρ, e, jc, tv, hs, q1, hR.kept hI hk h1 h2 h3 h5 h4 hio hmk hr2.ext.size, q2⟩
 have hYs : yx P l (C.d :: C.ds) Y xs := by
  intro j as hj I O w args hY him hargs;obtain ⟨ρ, hJ, hR⟩ := hY;have hR : Rel C ⟨zipT sl (B j).1, (lN, .obj l (.loop rec0)) :: (hN, .dead) :: (B j).2⟩ ⟨ρ, I, O⟩ a1 w := hR;have hbl := (hR.sat.blk lN (.obj l (.loop rec0)) (by simp [yj])).1
  have hsz : args.toArray.size = rec0.params.size := by
   have := hpl j as hj;simp only [List.size_toArray, hargs.1, rec0]; rw [← this]; simp
  refine ⟨_, _, _, _, _, run_yield hbl hsz, roundIn_of_wpIn trivial ?_⟩;have hxr := hrnd j as hj hJ l (.loop rec0) (.loop { rec0 with state := .busy }) _ (sl.map fun t => a1.tmps.getD t undef) ⟨ρ, I, O⟩ w rfl (Nat.le_trans hyB hR.ext.size);have hok := hR.ext.okb
  have htm : ∀ t x, lk (zhx ps.toList as (zipT sl (B j).1)) t = some x -> RV I ρ x (((rec0.params.zip args.toArray).foldl (fun tmps (t, a) => tmps.setIfInBounds t a) rec0.tmps).getD t undef) := by
   have := zkj (I := I) (ρ := ρ) (ps := ps.toList) (as := as) (vs := args) (s := zipT sl (B j).1) (tm := a.tmps) (by rw [hpl j as hj]) (hargs.forget (hxn j as hj)) (fun p hp => by rw [hr.size]; exact hps p hp) (fun t x hx => hR.tmps t x hx);intro t x hx;have h3 := this t x hx
   have e3 : (rec0.params.zip args.toArray).foldl (fun tmps (t, a) => tmps.setIfInBounds t a) rec0.tmps = (ps.toList.zip args).foldl (fun tm (t, a) => tm.setIfInBounds t a) a.tmps := by
    rw [← Array.foldl_toList];simp [rec0, Array.toList_zip]
   rw [e3]; exact h3
  have hRr : Rel (C.rnd l ⟨ρ, I, O⟩ w) ⟨zhx ps.toList as (zipT sl (B j).1), (hN, .hold (sl.map fun t => a1.tmps.getD t undef) (B j).1) :: (lN, .obj l (.loop rec0)) :: (B j).2⟩ ⟨ρ, I, O⟩
   { tmps := (rec0.params.zip args.toArray).foldl (fun tmps (t, a) => tmps.setIfInBounds t a) rec0.tmps, defers := [] } w := by
   refine ⟨?_, Dfs.nil _ _ _, htm, ⟨hR.sat.im, hR.sat.ob, fun k B' hB' => ?_⟩, ⟨Im.le_refl _, rfl, rfl, rfl, Nat.le_refl _, Nat.le_refl _, fun _ _ _ _ => ⟨rfl, rfl⟩, fun b y n _ hy => ⟨n, hy⟩⟩⟩
   ·rw [← Array.foldl_toList, zhy]; exact hr.size
   ·simp only [yj] at hB';cases hb : hN.beq k
    ·refine (hR.sat.blk k B' ?_).into (fun b n hO => .inr ⟨n, hO⟩) (fun h => Nat.le_trans h hR.ext.size);simpa [yj, hb] using hB'
    ·have : B' = .hold (sl.map fun t => a1.tmps.getD t undef) (B j).1 := by simpa [hb] using hB'.symm
     subst this;refine ⟨by simp [hB], fun q c v hc hv => ?_⟩;rw [List.getElem?_map] at hv;cases hs : sl[q]? with
     | none => simp [hs] at hv
     | some t =>
      simp [hs] at hv;subst hv
      have hz : ∀ (sl : List Nat) (xs : List AV) (q : Nat), sl.Nodup -> sl[q]? = some t -> xs[q]? = some c -> lk (zipT sl xs) t = some c := by
       intro sl
       induction sl with
       | nil => intro xs q _ h; simp at h
       | cons s r ih =>
        intro xs q hnd h h';cases xs with
        | nil => simp at h'
        | cons y ys =>
         cases q with
         | zero => simp at h h'; subst h; subst h'; simp [zipT, yj]
         | succ q =>
          simp at h h';have hne : s ≠ t := fun e => (List.nodup_cons.1 hnd).1 (e ▸ List.mem_of_getElem? h)
          have hb : s.beq t = false := beqF.2 hne;simp [zipT, yj, hb, ih ys q (List.nodup_cons.1 hnd).2 h h']
      simpa [Array.getD_eq_getD_getElem?] using hR.tmps t c (hz sl _ q hsl hs hc)
  refine wpIn_mono (hxr _ _ _ hRr) ?_
  rintro e2 a2 w2 ⟨st1, g3, hR1, he, hlk1, hbody⟩
  subst he;obtain ⟨hb1, _, _⟩ := hR1.sat.blk lN _ hlk1;refine ⟨_, run_beginRound hb1 rfl, ?_⟩;have hR2 := hR1.putObj (o' := .loop { rec0 with state := .busy }) hlk1;refine wpIn_mono (hbody _ _ _ hR2) ?_
  rintro e3 a3 w3 ⟨st3, g4, hR3, tv, hs, himp, hq⟩
  obtain ⟨g5, hR5⟩ := himp g4 a3 w3 hR3;have hlk : lk [(hN, Blk.hold (sl.map fun t => a1.tmps.getD t undef) tv), (lN, .obj l (.loop { rec0 with state := .busy }))] lN = some (.obj l (.loop { rec0 with state := .busy })) := by simp [yj, hnl]
  have hlk5 : lk ((hN, Blk.hold (sl.map fun t => a1.tmps.getD t undef) tv) :: (lN, .obj l (.loop { rec0 with state := .busy })) :: hs) lN = some (.obj l (.loop { rec0 with state := .busy })) := by simp [yj, hnl]
  obtain ⟨hb5, _, _⟩ := hR5.sat.blk lN _ hlk5
  -- the record written
  have fin : ∀ (jump : Option Code), Rel C ⟨zipT sl tv, (lN, .obj l (.loop { rec0 with state := if jump.isNone then .ready else .done, pending := jump })) :: (hN, .dead) :: hs⟩ g5 a1 (w3.putObj l (.loop { rec0 with state := if jump.isNone then .ready else .done, pending := jump })) ∧
   (Instr.endRound l jump).run P w3 = .ok (.bool jump.isNone) (w3.putObj l (.loop { rec0 with state := if jump.isNone then .ready else .done, pending := jump })) ∧
   ImO g5.I g5.O (w3.putObj l (.loop { rec0 with state := if jump.isNone then .ready else .done, pending := jump })) ∧
   Chg (C.d :: C.ds) I O w g5.I g5.O (w3.putObj l (.loop { rec0 with state := if jump.isNone then .ready else .done, pending := jump })) := fun jump => by
   have h6 := hR5.putObj (o' := .loop { rec0 with state := if jump.isNone then .ready else .done, pending := jump }) hlk5
   have h7 : Rel (C.rnd l ⟨ρ, I, O⟩ w) ⟨[], (hN, .hold (sl.map fun t => a1.tmps.getD t undef) tv) :: (lN, .obj l (.loop { rec0 with state := if jump.isNone then .ready else .done, pending := jump })) :: hs⟩ g5 a3 (w3.putObj l (.loop { rec0 with state := if jump.isNone then .ready else .done, pending := jump })) := by
    refine ⟨h6.size, h6.defers, h6.tmps, ⟨h6.sat.im, h6.sat.ob, fun k B' hB' => h6.sat.blk k B' ?_⟩, h6.ext⟩;simp only [putH, yj] at hB' ⊢;cases hb : lN.beq k
    ·simpa [hb] using hB'
    ·have : lN = k := by simpa using hb
     subst this;simpa [hnl] using hB'
   refine ⟨hR.outof h7 hne rfl hyB, run_endRound (r := { rec0 with state := .busy }) jump hb5, ⟨h6.sat.im, h6.sat.ob⟩, ⟨h6.ext.I, h6.ext.os, h6.ext.tape, h6.ext.output, h6.ext.drawn, h6.ext.size, fun b hb hno => ?_, h6.ext.own⟩⟩;refine h6.ext.keep b hb (fun hk => ?_) (fun ⟨y, n, hy, hm⟩ => hno ⟨y, n, by simp [show y ∈ C.ds from hy], hm⟩);rcases hk with hk | ⟨n, hk⟩
   ·exact absurd hk (Nat.not_le.2 hb)
   ·exact hno ⟨C.d, n, by simp, hk⟩
  cases e3 with
  | normal =>
   obtain ⟨f1, f2, f3, f4⟩ := fin none;obtain ⟨hq, hJ'⟩ : (tv, hs) = B (j + 1) /\ J (j + 1) := hq;have e1 : tv = (B (j + 1)).1 := by rw [← hq]
   have e2 : hs = (B (j + 1)).2 := by rw [← hq]
   subst e1; subst e2;exact ⟨_, _, f2, true, g5.I, g5.O, rfl, ⟨g5.ρ, hJ', f1⟩, f3, f4⟩
  | ret =>
   obtain ⟨f1, f2, f3, f4⟩ := fin (some .ret);exact ⟨_, _, f2, false, g5.I, g5.O, rfl, ⟨g5.ρ, .ret, .ret, tv, hs, rfl, f1, hq⟩, f3, f4⟩
  | exit id =>
   obtain ⟨f1, f2, f3, f4⟩ := fin (some (.exit id));exact ⟨_, _, f2, false, g5.I, g5.O, rfl, ⟨g5.ρ, .exit id, .exit id, tv, hs, rfl, f1, hq⟩, f3, f4⟩
  | goto t => exact hq.elim
  | panic c => exact hq.elim
  | outgrown => exact hq.elim
 have hcall := hit.2 (C.d :: C.ds) l Y g2.I g2.O w1 us ⟨hr2.sat.im, hr2.sat.ob⟩ hus hYc hY0 hYs;refine ⟨l, mark, w1, { target := .fn (.func f) us.toArray, args := #[.func (.yield l) #[] #[]] }, w1, f, (Value.func (.yield l) #[] #[] :: us).toArray, w1, henter, ?_, fun f' _ => C.F_fn f', ?_, fun hx => by rw [C.F_depth] at hx; simp at hx, ?_⟩
 ·simp [resolve, e, Deferred.ofValue];rfl
 ·have := zH (P := P) hit.1 (#[Value.func (.yield l) #[] #[]] ++ us.toArray) w1;simpa [invoke] using this
 ·refine CallsIn.mono (C.calls hcall) ?_
  rintro e' w' ⟨v, j, on, I', O', rfl, hon, hYf, him, hc⟩
  cases on with
  | true =>
   obtain ⟨ρ, hJ, hR⟩ := hYf;have hR : Rel C ⟨zipT sl (B j).1, (lN, .obj l (.loop rec0)) :: (hN, .dead) :: (B j).2⟩ ⟨ρ, I', O'⟩ a1 w' := hR;have hj := hon rfl;subst hj;have hlk : lk ((lN, .obj l (.loop rec0)) :: (hN, .dead) :: (B xs.length).2) lN = some (.obj l (.loop rec0)) := by simp [yj]
   have hb := (hR.sat.blk lN _ hlk).1;refine ⟨none, _, run_endLoop hb (by simp [rec0]), ?_⟩;have h2 := (hR.putObj (o' := .loop { rec0 with state := .exhausted }) hlk).withBlk (k := lN) (B := .dead) trivial;exact ⟨_, _, h2.drop2, hend hJ⟩
  | false =>
   obtain ⟨ρ, e, jc, tv, hs, q1, hR, q2⟩ := hYf;have hlk : lk ((lN, .obj l (.loop { rec0 with state := .done, pending := some jc })) :: (hN, .dead) :: hs) lN = some (.obj l (.loop { rec0 with state := .done, pending := some jc })) := by simp [yj]
   have hb := (hR.sat.blk lN _ hlk).1;refine ⟨some jc, _, run_endLoop hb (by simp), ?_⟩;have h2 := ((hR.putObj (o' := .loop { rec0 with state := .exhausted, pending := some jc }) hlk).withBlk (k := lN) (B := .dead) trivial).drop2;cases e <;> simp [zoF] at q1
   ·subst q1; exact wpIn_exit ⟨_, _, h2, q2⟩
   ·subst q1; exact wpIn_ret ⟨_, _, h2, q2⟩
end
end Go.Rse
namespace Go.Rse
open Go Go.RowKit
theorem RV.renameL {I : Im} {ρ ρ' : Nat -> Value} {x : AV} {v : Value} {ch : List Nat} (h : RV I ρ x v) (hf : ∀ k ∈ ch, x.fr k = true) (hρ : ∀ n, n ∉ ch -> ρ' n = ρ n) : RV I ρ' x v := by
 induction h with
 | int k n => exact .int k n
 | bool b => exact .bool b
 | str s => exact .str s
 | nils => exact .nils
 | nilf => exact .nilf
 | val v => exact .val v
 | sl enc l A b o s c vs hA hc hm hs hI hv ih => exact .sl enc l A b o s c vs hA hc hm hs hI hv
 | own k' A n c h =>
  have : k' ∉ ch := fun hm => by have := hf k' hm; simp [AV.fr] at this
  exact .own k' A n c ((hρ k' this).trans h)
 | ptr k' s i j b h =>
  have : k' ∉ ch := fun hm => by have := hf k' hm; simp [AV.fr] at this
  exact .ptr k' s i j b (by rw [hρ k' this]; exact h)
 | mth f k' s i j b h =>
  have : k' ∉ ch := fun hm => by have := hf k' hm; simp [AV.fr] at this
  exact .mth f k' s i j b (by rw [hρ k' this]; exact h)
 | sub k' s i m c A h =>
  have : k' ∉ ch := fun hm => by have := hf k' hm; simp [AV.fr] at this
  exact .sub k' s i m c A (by rw [hρ k' this]; exact h)
 | ept enc x j b o vs hI hv ih => exact .ept enc x j b o vs hI hv
 | yv l => exact .yv l
 | fn f caps vs hl hv ih => exact .fn f caps vs hl (fun j c v hc hvv => ih j c v hc hvv (fun k hk => zn (by simpa [AV.fr] using hf k hk) hc) hρ)
 | agg cs vs hl hv ih => exact .agg cs vs hl (fun j c v hc hvv => ih j c v hc hvv (fun k hk => zn (by simpa [AV.fr] using hf k hk) hc) hρ)
 | tup cs vs hl hv ih => exact .tup cs vs hl (fun j c v hc hvv => ih j c v hc hvv (fun k hk => zn (by simpa [AV.fr] using hf k hk) hc) hρ)
 | ifb b x v h ih => exact .ifb b x v (fun hb => ih hb (fun k hk => by simpa [AV.fr] using hf k hk) hρ)
 | opt b x v h h0 ih => exact .opt b x v (fun hb => ih hb (fun k hk => by simpa [AV.fr] using hf k hk) hρ) h0
 | mp k' b h =>
  have : k' ∉ ch := fun hk => by have := hf k' hk; simp [AV.fr] at this
  exact .mp k' b ((hρ k' this).trans h)
 | any v => exact .any v
def fwd : List (Nat × Nat) -> Nat -> Option Nat
 | [], _ => none
 | (n, k) :: r, m => bif n.beq m then some k else fwd r m
def bwd : List (Nat × Nat) -> Nat -> Option Nat
 | [], _ => none
 | (n, k) :: r, m => bif k.beq m then some n else bwd r m
def biOk (μ : List (Nat × Nat)) : Bool := μ.all fun p => (fwd μ p.1 == some p.2) && (bwd μ p.2 == some p.1)
theorem zmg : ∀ {μ : List (Nat × Nat)} {n k : Nat}, fwd μ n = some k -> (n, k) ∈ μ
 | [], _, _, h => by simp [fwd] at h
 | (a, b) :: r, n, k, h => by
  simp only [fwd] at h;cases hb : a.beq n <;> simp [hb] at h
  ·exact List.mem_cons_of_mem _ (zmg h)
  ·have : a = n := by simpa using hb
   subst this; subst h; simp
theorem zgD : ∀ {μ : List (Nat × Nat)} {n k : Nat}, bwd μ k = some n -> (n, k) ∈ μ
 | [], _, _, h => by simp [bwd] at h
 | (a, b) :: r, n, k, h => by
  simp only [bwd] at h;cases hb : b.beq k <;> simp [hb] at h
  ·exact List.mem_cons_of_mem _ (zgD h)
  ·have : b = k := by simpa using hb
   subst this; subst h; simp
theorem ziu {μ : List (Nat × Nat)} (h : biOk μ = true) {n k : Nat} : fwd μ n = some k ↔ bwd μ k = some n := by
 simp only [biOk, List.all_eq_true, Bool.and_eq_true, beq_iff_eq] at h;constructor
 ·intro hf; exact (h _ (zmg hf)).2
 ·intro hb; exact (h _ (zgD hb)).1
def ren1 (μ : List (Nat × Nat)) : AV -> AV
 | .own n => .own ((fwd μ n).getD 0)
 | .ptr n s i j => .ptr ((fwd μ n).getD 0) s i j
 | .mp n => .mp ((fwd μ n).getD 0)
 | x => x
def AV.ren (μ : List (Nat × Nat)) : AV -> AV
 | .fn f cs => .fn f (cs.map (ren1 μ))
 | .tup cs => .tup (cs.map (ren1 μ))
 | .agg cs => .agg (cs.map (ren1 μ))
 | x => ren1 μ x
def ok1 (L : List Nat) : AV -> Bool
 | .own n => L.any (·.beq n)
 | .ptr n _ _ _ => L.any (·.beq n)
 | .mp n => L.any (·.beq n)
 | x => x.nm
def AV.okN (L : List Nat) : AV -> Bool
 | .fn _ cs => cs.all (ok1 L)
 | .tup cs => cs.all (ok1 L)
 | .agg cs => cs.all (ok1 L)
 | x => ok1 L x
theorem zgE {I : Im} {ρ ρ' : Nat -> Value} {μ : List (Nat × Nat)} {L : List Nat} (hρ : ∀ n ∈ L, ρ' ((fwd μ n).getD 0) = ρ n) {x : AV} {v : Value} (hk : ok1 L x = true) (h : RV I ρ x v) : RV I ρ' (ren1 μ x) v := by
 cases x with
 | own n =>
  have : n ∈ L := by simp only [ok1, List.any_eq_true] at hk; obtain ⟨m, hm, e⟩ := hk; have : m = n := by simpa using e
                     exact this ▸ hm
  cases h; exact .own _ _ _ _ ((hρ n this).trans (by assumption))
 | ptr n s i j =>
  have : n ∈ L := by simp only [ok1, List.any_eq_true] at hk; obtain ⟨m, hm, e⟩ := hk; have : m = n := by simpa using e
                     exact this ▸ hm
  cases h; exact .ptr _ _ _ _ _ (by rw [hρ n this]; assumption)
 | mp n =>
  have : n ∈ L := by simp only [ok1, List.any_eq_true] at hk; obtain ⟨m, hm, e⟩ := hk; have : m = n := by simpa using e
                     exact this ▸ hm
  cases h; exact .mp _ _ ((hρ n this).trans (by assumption))
 | _ => exact h.forget hk
theorem zgF {I : Im} {ρ ρ' : Nat -> Value} {μ : List (Nat × Nat)} {L : List Nat} (hρ : ∀ n ∈ L, ρ' ((fwd μ n).getD 0) = ρ n) {x : AV} {v : Value} (hk : ok1 L x = true) (h : RV I ρ' (ren1 μ x) v) : RV I ρ x v := by
 cases x with
 | own n =>
  have : n ∈ L := by simp only [ok1, List.any_eq_true] at hk; obtain ⟨m, hm, e⟩ := hk; have : m = n := by simpa using e
                     exact this ▸ hm
  have h : RV I ρ' (.own ((fwd μ n).getD 0)) v := h;cases h; exact .own _ _ _ _ ((hρ n this).symm.trans (by assumption))
 | ptr n s i j =>
  have : n ∈ L := by simp only [ok1, List.any_eq_true] at hk; obtain ⟨m, hm, e⟩ := hk; have : m = n := by simpa using e
                     exact this ▸ hm
  have h : RV I ρ' (.ptr ((fwd μ n).getD 0) s i j) v := h;cases h; exact .ptr _ _ _ _ _ (by rw [← hρ n this]; assumption)
 | mp n =>
  have : n ∈ L := by simp only [ok1, List.any_eq_true] at hk; obtain ⟨m, hm, e⟩ := hk; have : m = n := by simpa using e
                     exact this ▸ hm
  have h : RV I ρ' (.mp ((fwd μ n).getD 0)) v := h;cases h; exact .mp _ _ ((hρ n this).symm.trans (by assumption))
 | _ => exact RV.forget h hk
theorem zoG {I : Im} {ρ ρ' : Nat -> Value} {μ : List (Nat × Nat)} {L : List Nat} (hρ : ∀ n ∈ L, ρ' ((fwd μ n).getD 0) = ρ n) {x : AV} {v : Value} (hk : x.okN L = true) (h : RV I ρ x v) : RV I ρ' (x.ren μ) v := by
 have hl : ∀ (cs : List AV) (us : List Value), cs.all (ok1 L) = true -> us.length = cs.length -> (∀ (j : Nat) (c : AV) (v : Value), cs[j]? = some c -> us[j]? = some v -> RV I ρ c v) →
  ∀ (j : Nat) (c : AV) (v : Value), (cs.map (ren1 μ))[j]? = some c -> us[j]? = some v -> RV I ρ' c v := fun cs us hk hl hv j c v hc hu => by
  rw [List.getElem?_map] at hc;cases hz : cs[j]? with
  | none => simp [hz] at hc
  | some z =>
   simp [hz] at hc; subst hc;exact zgE hρ (List.all_eq_true.1 hk z (List.mem_of_getElem? hz)) (hv j z v hz hu)
 cases x with
 | fn f cs => cases h; rename_i us h1 h2; exact .fn f _ us (by simpa using h1) (hl cs us hk h1 h2)
 | tup cs => cases h; rename_i us h1 h2; exact .tup _ us (by simpa using h1) (hl cs us hk h1 h2)
 | agg cs => cases h; rename_i us h1 h2; exact .agg _ us (by simpa using h1) (hl cs us hk h1 h2)
 | own n => exact zgE (x := .own n) hρ hk h
 | ptr n s i j => exact zgE (x := .ptr n s i j) hρ hk h
 | mp n => exact zgE (x := .mp n) hρ hk h
 | _ => exact h.forget hk
theorem zoH {I : Im} {ρ ρ' : Nat -> Value} {μ : List (Nat × Nat)} {L : List Nat} (hρ : ∀ n ∈ L, ρ' ((fwd μ n).getD 0) = ρ n) {x : AV} {v : Value} (hk : x.okN L = true) (h : RV I ρ' (x.ren μ) v) : RV I ρ x v := by
 have hl : ∀ (cs : List AV) (us : List Value), cs.all (ok1 L) = true -> us.length = (cs.map (ren1 μ)).length -> (∀ (j : Nat) (c : AV) (v : Value), (cs.map (ren1 μ))[j]? = some c -> us[j]? = some v -> RV I ρ' c v) →
  ∀ (j : Nat) (c : AV) (v : Value), cs[j]? = some c -> us[j]? = some v -> RV I ρ c v := fun cs us hk hl hv j c v hc hu =>
  zgF hρ (List.all_eq_true.1 hk c (List.mem_of_getElem? hc)) (hv j _ v (by rw [List.getElem?_map, hc]; rfl) hu)
 cases x with
 | fn f cs =>
  have h : RV I ρ' (.fn f (cs.map (ren1 μ))) v := h;cases h; rename_i us h1 h2; exact .fn f _ us (by simpa using h1) (hl cs us hk h1 h2)
 | tup cs =>
  have h : RV I ρ' (.tup (cs.map (ren1 μ))) v := h;cases h; rename_i us h1 h2; exact .tup _ us (by simpa using h1) (hl cs us hk h1 h2)
 | agg cs =>
  have h : RV I ρ' (.agg (cs.map (ren1 μ))) v := h;cases h; rename_i us h1 h2; exact .agg _ us (by simpa using h1) (hl cs us hk h1 h2)
 | own n => exact zgF (x := .own n) hρ hk h
 | ptr n s i j => exact zgF (x := .ptr n s i j) hρ hk h
 | mp n => exact zgF (x := .mp n) hρ hk h
 | _ => exact RV.forget h hk
def Blk.nm : Blk -> Bool
 | .box cs _ => AV.nm.nmL cs
 | .row _ _ _ _ => true
 | .mpb _ _ _ => true
 | _ => false
def keys (h : List (Nat × Blk)) : List Nat := h.map (·.1)
def Blk.okNB (L : List Nat) : Blk -> Bool
 | .box cs _ => cs.all (AV.okN L)
 | .row _ _ _ _ => true
 | .mpb _ _ _ => true
 | _ => false
def Blk.renB (μ : List (Nat × Nat)) : Blk -> Blk
 | .box cs E => .box (cs.map (AV.ren μ)) E
 | B => B
def FnO (P : Program) (f : FuncId) (as : List AV) (hs : List (Nat × Blk)) (kp : List Nat) (r : AV) (hs' : List (Nat × Blk)) : Prop :=
 zZ P f = true /\ ∀ (d : Nat) (ρ : Nat -> Value) (I : Im) (O : Owns) (w : World) (args : List Value), Sat (C0 0 d ⟨ρ, I, O⟩ w) hs ⟨ρ, I, O⟩ w -> RVL I ρ as args →
  Calls P f args.toArray w fun e w' => ∃ v ρ' I' O', e = .returned v /\ Sat (C0 0 d ⟨ρ, I, O⟩ w) hs' ⟨ρ', I', O'⟩ w' /\ RV I' ρ' r v /\ Ext (C0 0 d ⟨ρ, I, O⟩ w) ⟨ρ', I', O'⟩ w' /\ ∀ n ∈ kp, ρ' n = ρ n
def hdr (h : List (Nat × Blk)) (n : Nat) : Option AV := match lk h n with
 | some (.row _ _ _ _) => some (.own n)
 | some (.box _ _) => some (.ptr n 0 0 0)
 | some (.mpb _ _ _) => some (.mp n)
 | _ => none
abbrev kN : Nat := 1000001
theorem zth {C : Ctx} {h : List (Nat × Blk)} {g : Gh} {w : World} (hs : Sat C h g w) {n : Nat} {x : AV} (hx : hdr h n = some x) : RV g.I g.ρ x (g.ρ n) := by
 unfold hdr at hx;split at hx
 ·rename_i heq;injection hx with hx; subst hx;obtain ⟨xs, h1, _⟩ := hs.blk n _ heq;rcases h1.2 with ⟨e, _⟩ | ⟨b, cap, cur, e, _⟩
  ·rw [e]; exact .own n _ _ _ e
  ·rw [e]; exact .own n _ _ _ e
 ·rename_i heq;injection hx with hx; subst hx;obtain ⟨b, vs, h1, _⟩ := hs.blk n _ heq;rw [h1];have := RV.ptr (I := g.I) (ρ := g.ρ) n 0 0 0 b (by rw [h1]; rfl);simpa using this
 ·rename_i heq;injection hx with hx; subst hx;obtain ⟨b, es, ck, h1, _⟩ := hs.blk n _ heq;rw [h1]; exact .mp n b h1
 ·simp at hx
theorem zqe {C : Ctx} {h : List (Nat × Blk)} {g : Gh} {w : World} (hs : Sat C h g w) {n : Nat} {x : AV} (hx : hdr h n = some x) {v : Value} (hv : RV g.I g.ρ x v) : g.ρ n = v := by
 unfold hdr at hx;split at hx
 ·injection hx with hx; subst hx; exact zU hv
 ·rename_i heq;injection hx with hx; subst hx;obtain ⟨b, vs, h1, _⟩ := hs.blk n _ heq;obtain ⟨b', h2, e⟩ := zV hv;rw [h1] at h2 ⊢;simp [yT] at h2;subst h2;rw [e]
 ·rename_i heq;injection hx with hx; subst hx;cases hv with | mp _ b h => exact h
 ·simp at hx
theorem zfv {C : Ctx} {h : List (Nat × Blk)} {g : Gh} {w : World} (hs : Sat C h g w) : ∀ {kp : List Nat} {cs : List AV}, kp.mapM (hdr h) = some cs -> RVL g.I g.ρ cs (kp.map g.ρ)
 | [], cs, e => by simp at e; subst e; exact ⟨rfl, fun j c v hc => by simp at hc⟩
 | n :: r, cs, e => by
  simp only [List.mapM_cons] at e;cases h1 : hdr h n with
  | none => simp [h1] at e
  | some x =>
   cases h2 : r.mapM (hdr h) with
   | none => simp [h1, h2] at e
   | some ys =>
    simp [h1, h2] at e; subst e;obtain ⟨hl, hv⟩ := zfv hs h2;refine ⟨by simpa using hl, fun j c v hc hvv => ?_⟩;cases j with
    | zero => simp at hc hvv; subst hc; subst hvv; exact zth hs h1
    | succ j => exact hv j c v (by simpa using hc) (by simpa using hvv)
theorem zdK {C : Ctx} {h : List (Nat × Blk)} {g : Gh} {w : World} (hs : Sat C h g w) {ρ : Nat -> Value} : ∀ {kp : List Nat} {cs : List AV}, kp.mapM (hdr h) = some cs -> RVL g.I g.ρ cs (kp.map ρ) -> ∀ n ∈ kp, g.ρ n = ρ n
 | [], cs, e, _, n, hn => by simp at hn
 | m :: r, cs, e, hv, n, hn => by
  simp only [List.mapM_cons] at e;cases h1 : hdr h m with
  | none => simp [h1] at e
  | some x =>
   cases h2 : r.mapM (hdr h) with
   | none => simp [h1, h2] at e
   | some ys =>
    simp [h1, h2] at e; subst e;rcases List.mem_cons.1 hn with rfl | hn
    ·exact zqe hs h1 (hv.2 0 x _ (by simp) (by simp))
    ·exact zdK hs h2 ⟨by simpa using hv.1, fun j c v hc hvv => hv.2 (j + 1) c v (by simpa using hc) (by simpa using hvv)⟩ n hn
def zmh (P : Program) (C : Ctx) (rv : List ResultVar) (r : AV) (vs : List Value) (cs : List AV) (hs' : List (Nat × Blk)) (e : Exit) (st : St) : Prop :=
 (e = .normal \/ e = .ret) /\ ∃ ts, Imp C st ⟨ts, (kN, .hold vs cs) :: hs'⟩ /\ RetVs P ⟨ts, (kN, .hold vs cs) :: hs'⟩ rv r
theorem y4.ctx {n n' d : Nat} {g0 g : Gh} {w0 w : World} {k : Nat} {B : Blk} (h : y4 (C0 n d g0 w0) g w k B) : y4 (C0 n' d g0 w0) g w k B := by
 cases B <;> exact h
theorem zdL {α : Type 1} : ∀ {h : List (Nat × α)} {k : Nat}, (h.all fun p => !(p.1.beq k)) = true -> lk h k = none
 | [], _, _ => rfl
 | (k', B) :: r, k, h => by
  simp only [List.all_cons, Bool.and_eq_true] at h;have : k'.beq k = false := by simpa using h.1
  simp [yj, this, zdL h.2]
theorem FnO.intro {P : Program} {f : FuncId} {fn : Func} {c : Code} {n : Nat} {as : List AV} {ts : List (Nat × AV)} {rv : List ResultVar} {r : AV} {hs hs' : List (Nat × Blk)} {kp : List Nat} {cs : List AV} (hc : zZ P f = true) (hf : P.funcs[f]? = some fn) (hb : fn.body = some c) (hn : fn.ntmps = n) (hrv : fn.results = rv.toArray)
 (hts : zaQ 0 as = ts) (hlen : as.length <= n) (hkn : (hs.all fun p => !(p.1.beq kN)) = true) (hkn' : (hs'.all fun p => !(p.1.beq kN)) = true) (hkp : kp.mapM (hdr hs) = some cs) (hkp' : kp.mapM (hdr hs') = some cs)
 (h : ∀ g w d vs, X P (C0 n d g w) c ⟨ts, (kN, .hold vs cs) :: hs⟩ (zmh P (C0 n d g w) rv r vs cs hs')) : FnO P f as hs kp r hs' := by
 refine ⟨hc, fun d ρ I O w args hsat hargs => (callsIn_wide (n := 0)).1 (callsIn_of_wp_marks hf hb trivial ?_)⟩;subst hts;have hsz : args.length = as.length := hargs.1;let C := C0 n d ⟨ρ, I, O⟩ w
 have hrel : Rel C ⟨zaQ 0 as, (kN, .hold (kp.map ρ) cs) :: hs⟩ ⟨ρ, I, O⟩ { tmps := args.toArray ++ Array.replicate (fn.ntmps - args.toArray.size) undef, defers := [] } w := by
  refine ⟨by simp [hn, C]; omega, Dfs.nil _ _ _, fun t x hx => ?_, ⟨hsat.im, hsat.ob, fun k B hB => ?_⟩, ⟨Im.le_refl _, rfl, rfl, rfl, Nat.le_refl _, Nat.le_refl _, fun _ _ _ _ => ⟨rfl, rfl⟩, fun b y n _ hy => ⟨n, hy⟩⟩⟩
  ·obtain ⟨_, hx'⟩ := zb7 (I := I) (ρ := ρ) as 0 t x hx;simp only [Nat.sub_zero] at hx';have ht : t < args.length := by rw [hsz]; exact (List.getElem?_eq_some_iff.1 hx').1
   have e : (args.toArray ++ Array.replicate (fn.ntmps - args.toArray.size) undef).getD t undef = args[t] := by
    simp [Array.getD_eq_getD_getElem?, Array.getElem?_append, ht]
   rw [e];exact hargs.2 t x _ hx' (List.getElem?_eq_getElem ht)
  ·simp only [yj] at hB;cases hbq : kN.beq k <;> simp [hbq] at hB
   ·exact (hsat.blk k B hB).ctx
   ·subst hB;exact zfv (g := ⟨ρ, I, O⟩) hsat hkp
 refine wpIn_mono (h _ w d _ _ _ w hrel) ?_
 rintro e a w' ⟨st, g1, hr1, he, ts', himp, hret⟩
 obtain ⟨g2, hr2⟩ := himp g1 a w' hr1
 have hfin : LeavesInM Fence.wide 0 P fn a.tmps (fun e w' => ∃ v ρ' I' O', e = .returned v /\ Sat (C0 0 d ⟨ρ, I, O⟩ w) hs' ⟨ρ', I', O'⟩ w' /\ RV I' ρ' r v /\ Ext (C0 0 d ⟨ρ, I, O⟩ w) ⟨ρ', I', O'⟩ w' /\ ∀ n ∈ kp, ρ' n = ρ n) a.defers .returning w' := by
  obtain ⟨D, hD, hnd, hDr⟩ := hr2.defers;refine zap (C := C) hrv hret rfl (fun g3 w3 v hr3 hv => ?_) D hD.plain hnd hDr ⟨hr2.size, Dfs.nil _ _ _, hr2.tmps, hr2.sat, hr2.ext⟩
  have hs3 : Sat (C0 0 d ⟨ρ, I, O⟩ w) hs' g3 w3 := ⟨hr3.sat.im, hr3.sat.ob, fun k B hB => by
   refine (hr3.sat.blk k B ?_).ctx
   have : kN.beq k = false := by
    cases hb : kN.beq k
    ·rfl
    ·have : kN = k := by simpa using hb
     subst this; rw [zdL hkn'] at hB; simp at hB
   simp [yj, this, hB]⟩
  have hh := hr3.sat.blk kN (.hold (kp.map ρ) cs) (by simp [yj]);exact ⟨v, g3.ρ, g3.I, g3.O, rfl, hs3, hv, ⟨hr3.ext.I, hr3.ext.os, hr3.ext.tape, hr3.ext.output, hr3.ext.drawn, hr3.ext.size, hr3.ext.keep, hr3.ext.own⟩, zdK (ρ := ρ) hs3 hkp' hh⟩
 rcases he with rfl | rfl <;> exact hfin
end Go.Rse
namespace Go.Rse
open Go Go.RowKit
def inO (O : Owns) (d dc : Nat) (μ : List (Nat × Nat)) : Owns := fun b => match O b with
 | some (y, k) => if y = d then (match bwd μ k with | some n => some (dc, n) | none => some (y, k)) else some (y, k)
 | none => none
def outO (O : Owns) (d dc : Nat) (μ : List (Nat × Nat)) : Owns := fun b => match O b with
 | some (y, n) => if y = dc then (match fwd μ n with | some k => some (d, k) | none => none) else some (y, n)
 | none => none
def outB (μ : List (Nat × Nat)) : List (Nat × Blk) -> List (Nat × Blk)
 | [] => []
 | (n, B) :: r => ((fwd μ n).getD 0, B.renB μ) :: outB μ r
def zet (μ : List (Nat × Nat)) (hs' : List (Nat × Blk)) : List (Nat × Blk) -> List (Nat × Blk)
 | [] => []
 | (n, B) :: r => bif (hs'.any fun p => p.1.beq n) then zet μ hs' r else ((fwd μ n).getD 0, .dead) :: zet μ hs' r
def zaj (st : St) (μ : List (Nat × Nat)) (L : List Nat) : List (Nat × Blk) -> Prop
 | [] => True
 | (n, B) :: r => (∃ k B', fwd μ n = some k /\ lk st.h k = some B' /\ LeB B' (B.renB μ) /\ B.okNB L = true) /\ zaj st μ L r
theorem zhz {st : St} {μ : List (Nat × Nat)} {L : List Nat} : ∀ {hs : List (Nat × Blk)}, zaj st μ L hs -> ∀ {n : Nat} {B : Blk}, lk hs n = some B -> ∃ k B', fwd μ n = some k /\ lk st.h k = some B' /\ LeB B' (B.renB μ) /\ B.okNB L = true
 | [], _, _, _, h => by simp [lk] at h
 | (m, B0) :: r, h, n, B, e => by
  simp only [yj] at e;cases hb : m.beq n <;> simp [hb] at e
  ·exact zhz h.2 e
  ·have : m = n := by simpa using hb
   subst this; subst e; exact h.1
theorem y4.move {C C' : Ctx} {g g' : Gh} {w : World} {n k : Nat} {B : Blk} (h : y4 C g w n B) (hn : B.nm = true) (hI : g'.I = g.I) (hρ : g'.ρ k = g.ρ n) (hO : ∀ b, g.O b = some (C.d, n) -> g'.O b = some (C'.d, k) /\ C'.okb b) : y4 C' g' w k B := by
 cases B with
 | box cs E =>
  obtain ⟨b, vs, h1, h2, h3, h4, h5, h6⟩ := h;exact ⟨b, vs, hρ.trans h1, (hO b h2).1, (hO b h2).2, h4, h5, fun j c v hc hv => by rw [hI]; exact (h6 j c v hc hv).forget (zo hn hc)⟩
 | row enc l E s =>
  obtain ⟨xs, h1, h2, h3, h4⟩ := h;exact ⟨xs, by rw [hρ]; exact h1, h2, fun i x j c v hx hc hv => by rw [hI]; exact h3 i x j c v hx hc hv, fun b hb => by rw [hρ] at hb; exact hO b (h4 b hb).1⟩
 | hold vs cs => simp [Blk.nm] at hn
 | obj b o => simp [Blk.nm] at hn
 | yld j on => simp [Blk.nm] at hn
 | mpb kenc venc l =>
  obtain ⟨b, es, ck, h1, h2, h3, h4, h5, h6⟩ := h;exact ⟨b, es, ck, hρ.trans h1, (hO b h2).1, (hO b h2).2, h4, h5, by rw [hI]; exact h6⟩
 | dead => trivial
theorem zh4 {C C' : Ctx} {g g' : Gh} {w : World} {n k : Nat} {B : Blk} {μ : List (Nat × Nat)} {L : List Nat} (h : y4 C g w k (B.renB μ)) (hn : B.okNB L = true) (hI : g'.I = g.I) (hρ : g'.ρ n = g.ρ k) (hc : ∀ x v, AV.okN L x = true -> RV g.I g.ρ (x.ren μ) v -> RV g.I g'.ρ x v) (hO : ∀ b, g.O b = some (C.d, k) -> g'.O b = some (C'.d, n) /\ C'.okb b) : y4 C' g' w n B := by
 cases B with
 | box cs E =>
  obtain ⟨b, vs, h1, h2, h3, h4, h5, h6⟩ := h
  exact ⟨b, vs, hρ.trans h1, (hO b h2).1, (hO b h2).2, h4, by simpa using h5, fun j c v hcc hv => by
   rw [hI];exact hc c v (List.all_eq_true.1 hn c (List.mem_of_getElem? hcc)) (h6 j _ v (by rw [List.getElem?_map, hcc]; rfl) hv)⟩
 | row enc l E s =>
  obtain ⟨xs, h1, h2, h3, h4⟩ := h;exact ⟨xs, by rw [hρ]; exact h1, h2, fun i x j c v hx hc hv => by rw [hI]; exact h3 i x j c v hx hc hv, fun b hb => by rw [hρ] at hb; exact hO b (h4 b hb).1⟩
 | hold vs cs => simp [Blk.okNB] at hn
 | obj b o => simp [Blk.okNB] at hn
 | yld j on => simp [Blk.okNB] at hn
 | mpb kenc venc l =>
  obtain ⟨b, es, ck, h1, h2, h3, h4, h5, h6⟩ := h;exact ⟨b, es, ck, hρ.trans h1, (hO b h2).1, (hO b h2).2, h4, h5, by rw [hI]; exact h6⟩
 | dead => trivial
theorem zhA {C C' : Ctx} {g g' : Gh} {w : World} {n k : Nat} {B : Blk} {μ : List (Nat × Nat)} {L : List Nat} (h : y4 C g w n B) (hn : B.okNB L = true) (hI : g'.I = g.I) (hρ : g'.ρ k = g.ρ n) (hc : ∀ x v, AV.okN L x = true -> RV g.I g.ρ x v -> RV g.I g'.ρ (x.ren μ) v) (hO : ∀ b, g.O b = some (C.d, n) -> g'.O b = some (C'.d, k) /\ C'.okb b) : y4 C' g' w k (B.renB μ) := by
 cases B with
 | box cs E =>
  obtain ⟨b, vs, h1, h2, h3, h4, h5, h6⟩ := h;refine ⟨b, vs, hρ.trans h1, (hO b h2).1, (hO b h2).2, h4, by simpa using h5, fun j c v hcc hv => ?_⟩;rw [List.getElem?_map] at hcc;cases hq : cs[j]? with
  | none => simp [hq] at hcc
  | some c0 =>
   simp [hq] at hcc; subst hcc;rw [hI];exact hc c0 v (List.all_eq_true.1 hn c0 (List.mem_of_getElem? hq)) (h6 j c0 v hq hv)
 | row enc l E s =>
  obtain ⟨xs, h1, h2, h3, h4⟩ := h;exact ⟨xs, by rw [hρ]; exact h1, h2, fun i x j c v hx hc hv => by rw [hI]; exact h3 i x j c v hx hc hv, fun b hb => by rw [hρ] at hb; exact hO b (h4 b hb).1⟩
 | hold vs cs => simp [Blk.okNB] at hn
 | obj b o => simp [Blk.okNB] at hn
 | yld j on => simp [Blk.okNB] at hn
 | mpb kenc venc l =>
  obtain ⟨b, es, ck, h1, h2, h3, h4, h5, h6⟩ := h;exact ⟨b, es, ck, hρ.trans h1, (hO b h2).1, (hO b h2).2, h4, h5, by rw [hI]; exact h6⟩
 | dead => trivial
theorem zmi {μ : List (Nat × Nat)} (hμ : biOk μ = true) : ∀ {hs : List (Nat × Blk)} {k : Nat} {B : Blk}, (∀ p ∈ hs, (fwd μ p.1).isSome = true) -> lk (outB μ hs) k = some B -> ∃ n B1, fwd μ n = some k /\ lk hs n = some B1 /\ B = B1.renB μ
 | [], _, _, _, h => by simp [outB, lk] at h
 | (n, B0) :: r, k, B, hk, h => by
  simp only [outB, yj] at h;obtain ⟨k0, hk0⟩ := Option.isSome_iff_exists.1 (hk (n, B0) (by simp));have hk0 : fwd μ n = some k0 := hk0;simp only [hk0, Option.getD_some] at h;cases hb : k0.beq k <;> simp [hb] at h
  ·obtain ⟨m, B1, h1, h2, h3⟩ := zmi hμ (fun p hp => hk p (by simp [hp])) h
   have hne : n ≠ m := fun e => by
    subst e; rw [hk0] at h1; injection h1 with h1; subst h1; simp at hb
   exact ⟨m, B1, h1, by simp [yj, beqF.2 hne, h2], h3⟩
  ·have : k0 = k := by simpa using hb
   subst this;exact ⟨n, B0, hk0, by simp [yj], h.symm⟩
theorem zeM {μ : List (Nat × Nat)} {hs' : List (Nat × Blk)} : ∀ {hs : List (Nat × Blk)} {k : Nat} {B : Blk}, lk (zet μ hs' hs) k = some B -> B = .dead
 | [], _, _, h => by simp [zet, lk] at h
 | (n, B0) :: r, k, B, h => by
  simp only [zet] at h;cases hb : (hs'.any fun p => p.1.beq n) <;> simp [hb] at h
  ·simp only [yj] at h;cases hb2 : Nat.beq ((fwd μ n).getD 0) k <;> simp [hb2] at h
   ·exact zeM h
   ·exact h.symm
  ·exact zeM h
theorem zbL {α : Type 1} : ∀ (l l' : List (Nat × α)) (k : Nat), lk (l ++ l') k = match lk l k with | some x => some x | none => lk l' k
 | [], l', k => rfl
 | (n, x) :: r, l', k => by
  simp only [List.cons_append, yj];cases n.beq k <;> simp [zbL r l' k]
theorem zhB {α : Type 1} : ∀ {l : List (Nat × α)} {n : Nat}, (l.any fun p => p.1.beq n) = true ↔ ∃ x, lk l n = some x
 | [], n => by simp [lk]
 | (m, y) :: r, n => by
  simp only [List.any_cons, Bool.or_eq_true, yj];cases hb : m.beq n
  ·simp [zhB (l := r) (n := n)]
  ·simp
theorem ziv {μ : List (Nat × Nat)} {hs' : List (Nat × Blk)} {n k : Nat} (hk : fwd μ n = some k) : ∀ {hs : List (Nat × Blk)}, (∃ B, lk hs n = some B) -> lk hs' n = none -> ∃ B, lk (zet μ hs' hs) k = some B
 | [], ⟨B, h⟩, _ => by simp [lk] at h
 | (m, B0) :: r, ⟨B, h⟩, hn => by
  simp only [yj] at h;simp only [zet];cases hb : m.beq n <;> simp [hb] at h
  ·obtain ⟨B', hB'⟩ := ziv hk ⟨B, h⟩ hn;cases hb2 : (hs'.any fun p => p.1.beq m)
   ·simp only [cond_false, yj];cases hb3 : Nat.beq ((fwd μ m).getD 0) k
    ·exact ⟨B', by simpa using hB'⟩
    ·exact ⟨_, rfl⟩
   ·exact ⟨B', by simpa using hB'⟩
  ·have : m = n := by simpa using hb
   subst this
   have hb2 : (hs'.any fun p => p.1.beq m) = false := by
    cases hc : (hs'.any fun p => p.1.beq m)
    ·rfl
    ·obtain ⟨x, hx⟩ := zhB.1 hc; rw [hn] at hx; simp at hx
   simp only [hb2, cond_false, yj, hk, Option.getD_some];exact ⟨.dead, by simp⟩
theorem zoI {α : Type 1} : ∀ {l : List (Nat × α)} {n : Nat} {x : α}, lk l n = some x -> (n, x) ∈ l
 | [], _, _, h => by simp [lk] at h
 | (m, y) :: r, n, x, h => by
  simp only [yj] at h;cases hb : m.beq n <;> simp [hb] at h
  ·exact List.mem_cons_of_mem _ (zoI h)
  ·have : m = n := by simpa using hb
   subst this; subst h; simp
theorem zkk {μ : List (Nat × Nat)} {n k : Nat} (hk : fwd μ n = some k) : ∀ {hs : List (Nat × Blk)}, (∃ B, lk hs n = some B) -> ∃ B, lk (outB μ hs) k = some B
 | [], ⟨B, h⟩ => by simp [lk] at h
 | (m, B0) :: r, ⟨B, h⟩ => by
  simp only [yj] at h;simp only [outB, yj];cases hb3 : Nat.beq ((fwd μ m).getD 0) k
  ·cases hb : m.beq n <;> simp [hb] at h
   ·simpa using zkk hk ⟨B, h⟩
   ·have : m = n := by simpa using hb
    subst this; rw [hk] at hb3; simp at hb3
  ·exact ⟨_, rfl⟩
theorem y4.held {C : Ctx} {g g' : Gh} {w w' : World} {k : Nat} {B : Blk} (h : y4 C g w k B) (hI : Im.le g.I g'.I) (hb : ∀ b, b < w.heap.size -> g.O b = some (C.d, k) -> w'.heap[b]? = w.heap[b]? /\ g'.O b = g.O b) {ch : List Nat}
 (hρ : g'.ρ k = g.ρ k) (hv : ∀ x v, (∀ k ∈ ch, AV.fr k x = true) -> RV g.I g.ρ x v -> RV g.I g'.ρ x v) (hf : ∀ k ∈ ch, B.fr k = true) (hy : ∀ j on, B = .yld j on -> y4 C g' w' k B) : y4 C g' w' k B := by
 cases B with
 | box cs E =>
  obtain ⟨b, vs, h1, h2, h3, h4, h5, h6⟩ := h;obtain ⟨e1, e2⟩ := hb b (yW h4) h2;exact ⟨b, vs, hρ.trans h1, e2.trans h2, h3, e1.trans h4, h5, fun j c v hcc hvv => (hv c v (fun k hk => zn (by simpa [Blk.fr] using hf k hk) hcc) (h6 j c v hcc hvv)).mono hI⟩
 | row enc l E s =>
  obtain ⟨xs, h1, h2, h3, h4⟩ := h;refine ⟨xs, ?_, h2, fun i x j c v hx hcc hvv => (h3 i x j c v hx hcc hvv).mono hI, fun b hbb => ?_⟩
  ·rw [hρ];obtain ⟨p1, p2⟩ := h1;refine ⟨p1, ?_⟩;rcases p2 with p2 | ⟨b, cap, cur, hv, hbb, hh, r⟩
   ·exact .inl p2
   ·have := h4 b (by rw [hv]; rfl);exact .inr ⟨b, cap, cur, hv, hbb, (hb b (yW hh) this.1).1.trans hh, r⟩
  ·rw [hρ] at hbb;obtain ⟨q1, q2⟩ := h4 b hbb;exact ⟨(hb b (zbk h1 hbb) q1).2.trans q1, q2⟩
 | hold vs cs => exact ⟨h.1, fun j c v hcc hvv => (hv c v (fun k hk => zn (by simpa [Blk.fr] using hf k hk) hcc) (h.2 j c v hcc hvv)).mono hI⟩
 | obj b o =>
  obtain ⟨h1, h2, h3⟩ := h;obtain ⟨e1, e2⟩ := hb b (yW h1) h2;exact ⟨e1.trans h1, e2.trans h2, h3⟩
 | yld j on => exact hy j on rfl
 | mpb kenc venc l =>
  obtain ⟨b, es, ck, h1, h2, h3, h4, h5, h6⟩ := h;obtain ⟨e1, e2⟩ := hb b (yW h4) h2;exact ⟨b, es, ck, hρ.trans h1, e2.trans h2, h3, e1.trans h4, h5, fun i e p he hp => ⟨(h6 i e p he hp).1.mono hI, (h6 i e p he hp).2.mono hI⟩⟩
 | dead => trivial
def zba (st : St) (μ : List (Nat × Nat)) (hs hs' : List (Nat × Blk)) (d : Option Nat) (r : AV) : St := ⟨consT d (r.ren μ) st.t, outB μ hs' ++ (zet μ hs' hs ++ st.h)⟩
def FnR (P : Program) (f : FuncId) (as : List AV) (hs : List (Nat × Blk)) (kp : List Nat) (E : Ending -> Value -> Prop) (r : AV) (hs' : List (Nat × Blk)) : Prop :=
 zZ P f = true /\ ∀ (d : Nat) (ρ : Nat -> Value) (I : Im) (O : Owns) (w : World) (args : List Value), Sat (C0 0 d ⟨ρ, I, O⟩ w) hs ⟨ρ, I, O⟩ w -> RVL I ρ as args →
  Calls P f args.toArray w fun e w' => ∃ v ρ' I' O', E e v /\ Sat (C0 0 d ⟨ρ, I, O⟩ w) hs' ⟨ρ', I', O'⟩ w' /\ RV I' ρ' r v /\ Ext (C0 0 d ⟨ρ, I, O⟩ w) ⟨ρ', I', O'⟩ w' /\ ∀ n ∈ kp, ρ' n = ρ n
theorem FnO.r {P : Program} {f : FuncId} {as : List AV} {hs hs' : List (Nat × Blk)} {kp : List Nat} {r : AV} (h : FnO P f as hs kp r hs') : FnR P f as hs kp (fun e v => e = .returned v) r hs' := h
theorem zlc {T : Array Value -> World -> (Ending -> World -> Prop) -> Prop} (hT : ∀ {A w R R'}, T A w R -> (∀ e w', R e w' -> R' e w') -> T A w R') {C : Ctx} {st : St} {E : Ending -> Value -> Prop} {dst : Option Tmp} {as : List AV} {hs hs' : List (Nat × Blk)} {kp : List Nat} {r : AV} {vals : List Value}
 (μ : List (Nat × Nat)) (h : ∀ (d : Nat) (ρ : Nat -> Value) (I : Im) (O : Owns) (w : World) (args : List Value), Sat (C0 0 d ⟨ρ, I, O⟩ w) hs ⟨ρ, I, O⟩ w -> RVL I ρ as args →
  T args.toArray w fun e w' => ∃ v ρ' I' O', E e v /\ Sat (C0 0 d ⟨ρ, I, O⟩ w) hs' ⟨ρ', I', O'⟩ w' /\ RV I' ρ' r v /\ Ext (C0 0 d ⟨ρ, I, O⟩ w) ⟨ρ', I', O'⟩ w' /\ ∀ n ∈ kp, ρ' n = ρ n)
 (hμ : biOk μ = true) (has : as.all (AV.okN (keys hs)) = true) (hrn : r.okN (keys hs') = true)
 (hin : zaj st μ (keys hs) hs) (hout : ∀ p ∈ hs', (fwd μ p.1).isSome = true /\ p.2.okNB (keys hs') = true) (hnew : ∀ p ∈ μ, kp.any (·.beq p.1) = true \/ (hs.any (·.1.beq p.1) = true /\ hs'.any (·.1.beq p.1) = false) \/ (hs.any (·.1.beq p.1) = false /\ st.fr p.2 = true))
 (hkp : ∀ n ∈ kp, hs.any (·.1.beq n) = true) (hd : dOk C.n dst = true) {g : Gh} {a : Act} {w : World} (hr : Rel C st g a w) (hall : RVL g.I g.ρ (as.map (AV.ren μ)) vals) :
 T vals.toArray w fun e w' => ∃ v g', E e v /\ Rel C (zba st μ hs hs' dst r) g' (a.put dst v) w' := by
 obtain ⟨dc, hdc, hdl⟩ := zb8 g.O w.heap.size (C.d :: C.ds) hr.sat.ob.1;have hdcd : C.d ≠ dc := fun e => hdl (by simp [e])
 have hdcs : dc ∉ C.ds := fun e => hdl (by simp [e])
 -- the callee's view
 let ρc : Nat -> Value := fun n => g.ρ ((fwd μ n).getD 0)
 let Oc := inO g.O C.d dc μ
 have hOc : ∀ b n, Oc b = some (dc, n) ↔ ∃ k, g.O b = some (C.d, k) /\ bwd μ k = some n := fun b n => by
  simp only [Oc, inO];cases hO : g.O b with
  | none => simp
  | some p =>
   obtain ⟨y, k⟩ := p;have hy : y ≠ dc := fun e => hdc b k (by rw [hO, e])
   simp only;by_cases e : y = C.d
   ·subst e;simp only [if_true];cases hw : bwd μ k with
    | none => simp [hw, hy]
    | some m => simp [hw]
   ·rw [if_neg e];simp [hy, e]
 have hOcn : ∀ b, (∀ n, Oc b ≠ some (dc, n)) -> Oc b = g.O b := fun b hb => by
  have h1 := hb;simp only [Oc, inO] at h1 ⊢;cases hO : g.O b with
  | none => rfl
  | some p =>
   obtain ⟨y, k⟩ := p;simp only [hO] at h1 ⊢;by_cases e : y = C.d
   ·subst e;simp only [if_true] at h1 ⊢;cases hw : bwd μ k with
    | none => rfl
    | some m => exact absurd (by simp [hw]) (h1 m)
   ·rw [if_neg e]
 have hOcnone : ∀ b, g.O b = none -> Oc b = none := fun b hb => by simp [Oc, inO, hb]
 have hsat : Sat (C0 0 dc ⟨ρc, g.I, Oc⟩ w) hs ⟨ρc, g.I, Oc⟩ w := by
  refine ⟨fun b o v hI => ⟨(hr.sat.im b o v hI).1, hOcnone b (hr.sat.im b o v hI).2⟩, ⟨fun b k hO => ?_, hr.sat.ob.2⟩, fun n B hB => ?_⟩
  ·cases hO' : g.O b with
   | none => have := hOcnone b hO'; have hO : Oc b = some k := hO; rw [this] at hO; simp at hO
   | some p => exact hr.sat.ob.1 b p hO'
  ·obtain ⟨k, B', h1, h2, h3, h4⟩ := zhz hin hB;refine zh4 (C := C) (k := k) (μ := μ) (L := keys hs) (h3 C g w k (hr.sat.blk k B' h2)) h4 rfl (by simp [ρc, h1]) (fun x v hx hv => zoH (μ := μ) (ρ' := g.ρ) (L := keys hs) (fun n _ => rfl) hx hv) (fun b hb => ?_);have : Oc b = some (dc, n) := (hOc b n).2 ⟨k, hb, (ziu hμ).1 h1⟩;exact ⟨this, .inr ⟨n, this⟩⟩
 have hrvl : RVL g.I ρc as vals := by
  refine ⟨by rw [hall.1]; simp, fun j c v hc hv => ?_⟩;exact zoH (μ := μ) (ρ' := g.ρ) (L := keys hs) (fun n _ => rfl) (List.all_eq_true.1 has c (List.mem_of_getElem? hc)) (hall.2 j _ v (by rw [List.getElem?_map, hc]; rfl) hv)
 refine hT (h dc ρc g.I Oc w _ hsat hrvl) ?_
 rintro e w' ⟨v, ρ', I', O', hEe, hs1, hv1, hx1, hkp1⟩
 -- the caller's view again
 let On := outO O' C.d dc μ
 let ρn : Nat -> Value := fun k => match bwd μ k with
  | some n => if hs'.any (·.1.beq n) = true then ρ' n else g.ρ k
  | none => g.ρ k
 have hOn1 : ∀ b n k, O' b = some (dc, n) -> fwd μ n = some k -> On b = some (C.d, k) := fun b n k h1 h2 => by simp [On, outO, h1, h2]
 have hOn2 : ∀ b y n, O' b = some (y, n) -> y ≠ dc -> On b = some (y, n) := fun b y n h1 h2 => by simp [On, outO, h1, h2]
 have hOn0 : ∀ b, O' b = none -> On b = none := fun b h1 => by simp [On, outO, h1]
 have hOni : ∀ b y k, On b = some (y, k) -> (y = C.d /\ ∃ n, O' b = some (dc, n)) \/ (y ≠ dc /\ O' b = some (y, k)) := fun b y k hb => by
  cases hO : O' b with
  | none => rw [hOn0 b hO] at hb; simp at hb
  | some p =>
   obtain ⟨y', n⟩ := p;by_cases e : y' = dc
   ·subst e;cases hf : fwd μ n with
    | none => simp [On, outO, hO, hf] at hb
    | some k' => rw [hOn1 b n k' hO hf] at hb; injection hb with hb; injection hb with e1 e2; exact .inl ⟨e1.symm, n, rfl⟩
   ·rw [hOn2 b y' n hO e] at hb; injection hb with hb; injection hb with e1 e2; subst e1; subst e2; exact .inr ⟨e, rfl⟩
 -- what the callee has left
 have hkeep : ∀ b, b < w.heap.size -> (∀ n, Oc b ≠ some (dc, n)) -> w'.heap[b]? = w.heap[b]? /\ On b = g.O b := fun b hb hno => by
  obtain ⟨p1, p2⟩ := hx1.keep b hb (fun hk => by
   rcases hk with hk | ⟨n, hk⟩
   ·exact absurd hk (Nat.not_le.2 hb)
   ·exact hno n hk) (fun ⟨y, n, hy, _⟩ => by simp at hy)
  have p2 : O' b = Oc b := p2;rw [hOcn b hno] at p2;refine ⟨p1, ?_⟩;cases hO : g.O b with
  | none => exact hOn0 b (p2.trans hO)
  | some p => exact hOn2 b p.1 p.2 (p2.trans hO) (fun e => hdc b p.2 (by rw [hO, ← e]))
 have hother : ∀ b y k, g.O b = some (y, k) -> y ≠ C.d -> ∀ n, Oc b ≠ some (dc, n) := fun b y k hO hy n hn => by
  obtain ⟨k', h1, _⟩ := (hOc b n).1 hn;rw [hO] at h1; injection h1 with h1; injection h1 with h1 _; exact hy h1
 have hio : ImO I' On w' := by
  refine ⟨fun b o u hI => ⟨(hs1.im b o u hI).1, hOn0 b (hs1.im b o u hI).2⟩, fun b k hO => ?_, hs1.ob.2⟩;rcases hOni b k.1 k.2 hO with ⟨_, n, hn⟩ | ⟨_, hn⟩
  ·exact hs1.ob.1 b _ hn
  ·exact hs1.ob.1 b _ hn
 have hown : ∀ b y n, b < w.heap.size -> On b = some (y, n) -> ∃ n', g.O b = some (y, n') := fun b y n hb hO => by
  rcases hOni b y n hO with ⟨rfl, m, hm⟩ | ⟨hy, hm⟩
  ·obtain ⟨n', hn'⟩ := hx1.own b dc m hb hm;obtain ⟨k, h1, _⟩ := (hOc b n').1 hn';exact ⟨k, h1⟩
  ·obtain ⟨n', hn'⟩ := hx1.own b y n hb hm;have hn' : Oc b = some (y, n') := hn';rw [hOcn b (fun m hm' => by rw [hm'] at hn'; injection hn' with hn'; injection hn' with e _; exact hy e.symm)] at hn';exact ⟨n', hn'⟩
 -- names whose meaning has changed are new
 let ch := (μ.filter fun p => !(hs.any (·.1.beq p.1))).map (·.2)
 have hch : ∀ k ∈ ch, st.fr k = true := fun k hk => by
  obtain ⟨p, hp, rfl⟩ := List.mem_map.1 hk;rw [List.mem_filter] at hp;have h2 : hs.any (·.1.beq p.1) = false := by simpa using hp.2
  rcases hnew p hp.1 with h1 | h1 | h1
  ·obtain ⟨n, hn, e⟩ := List.any_eq_true.1 h1;have : n = p.1 := by simpa using e
   rw [← this, hkp n hn] at h2; simp at h2
  ·rw [h2] at h1; simp at h1
  ·exact h1.2
 have hρn : ∀ k, k ∉ ch -> ρn k = g.ρ k := fun k hk => by
  simp only [ρn];cases hb : bwd μ k with
  | none => rfl
  | some n =>
   have hf := (ziu hμ).2 hb;simp only;split
   ·rename_i ho;have hm := zgD hb;rcases hnew (n, k) hm with h1 | h1 | h1
    ·obtain ⟨m, hmk, e⟩ := List.any_eq_true.1 h1;have : m = n := by simpa using e
     subst this;rw [hkp1 m hmk]; simp [ρc, hf]
    ·have h1 : hs.any (·.1.beq n) = true /\ hs'.any (·.1.beq n) = false := h1;rw [ho] at h1; simp at h1
    ·exact absurd (List.mem_map.2 ⟨(n, k), List.mem_filter.2 ⟨hm, by simp [show hs.any (·.1.beq n) = false from h1.1]⟩, rfl⟩) hk
   ·rfl
 have hfrT : ∀ t x, lk st.t t = some x -> ∀ k ∈ ch, x.fr k = true := fun t x hx k hk => zhm (by have := hch k hk; simp [St.fr] at this; exact this.1) hx
 have hfrH : ∀ n B, lk st.h n = some B -> ∀ k ∈ ch, B.fr k = true /\ n ≠ k := fun n B hB k hk => zb1 (by have := hch k hk; simp [St.fr] at this; exact this.2) hB
 have htm : ∀ t x, lk st.t t = some x -> RV I' ρn x (a.tmps.getD t undef) := fun t x hx => ((hr.tmps t x hx).renameL (hfrT t x hx) hρn).mono hx1.I
 have hext : Ext C ⟨ρn, I', On⟩ w' := by
  refine ⟨Im.le_trans hr.ext.I hx1.I, hx1.os.trans hr.ext.os, hx1.tape.trans hr.ext.tape, hx1.output.trans hr.ext.output, Nat.le_trans hr.ext.drawn hx1.drawn, Nat.le_trans hr.ext.size hx1.size, fun b hb hn ho => ?_, fun b y n hb hO => ?_⟩
  ·obtain ⟨p1, p2⟩ := hr.ext.keep b hb hn ho
   obtain ⟨q1, q2⟩ := hkeep b (Nat.lt_of_lt_of_le hb hr.ext.size) (fun n hn' => by
    obtain ⟨k, h1, _⟩ := (hOc b n).1 hn';exact hn (hr.ext.okb b k h1))
   exact ⟨q1.trans p1, q2.trans p2⟩
  ·obtain ⟨n', hn'⟩ := hown b y n (Nat.lt_of_lt_of_le hb hr.ext.size) hO;exact hr.ext.own b y n' hb hn'
 have hdf : Dfs C ⟨ρn, I', On⟩ a.defers w' := by
  obtain ⟨D, p1, hn, p2⟩ := hr.defers;refine ⟨D, p1, hn, fun q hq => ?_⟩;obtain ⟨p3, p4, p5⟩ := p2 q hq;obtain ⟨q1, q2⟩ := hkeep q (yW p3) (fun n hn' => by rw [hOcnone q p4] at hn'; simp at hn');exact ⟨q1.trans p3, q2.trans p4, p5⟩
 have hren : ∀ n ∈ keys hs', ρn ((fwd μ n).getD 0) = ρ' n := fun n hn => by
  obtain ⟨p, hp, rfl⟩ := List.mem_map.1 hn;obtain ⟨k, hk⟩ := Option.isSome_iff_exists.1 (hout p hp).1;simp only [hk, Option.getD_some, ρn, (ziu hμ).1 hk];rw [if_pos (List.any_eq_true.2 ⟨p, hp, by simp⟩)]
 have hblk : ∀ k B, lk (outB μ hs' ++ (zet μ hs' hs ++ st.h)) k = some B -> y4 C ⟨ρn, I', On⟩ w' k B := fun k B hB => by
  rw [zbL] at hB;cases hob : lk (outB μ hs') k with
  | some B1 =>
   simp only [hob] at hB;injection hB with hB; subst hB;obtain ⟨n, B2, h1, h2, rfl⟩ := zmi hμ (fun p hp => (hout p hp).1) hob;have hmem : ∃ p ∈ hs', p.1 = n /\ p.2 = B2 := ⟨_, zoI h2, rfl, rfl⟩;obtain ⟨p, hp, rfl, rfl⟩ := hmem;have hin' : hs'.any (·.1.beq p.1) = true := zhB.2 ⟨_, h2⟩;refine zhA (C := C0 0 dc ⟨ρc, g.I, Oc⟩ w) (g := ⟨ρ', I', O'⟩) (n := p.1) (L := keys hs') (hs1.blk p.1 p.2 h2) (hout p hp).2 rfl ?_ (fun x v hx hv => zoG (L := keys hs') hren hx hv) (fun b hb => ?_)
   ·simp only [ρn, (ziu hμ).1 h1, if_pos hin']
   ·have := hOn1 b p.1 k hb h1;exact ⟨this, hext.okb b k this⟩
  | none =>
   simp only [hob] at hB;rw [zbL] at hB;cases hgb : lk (zet μ hs' hs) k with
   | some B1 =>
    simp only [hgb] at hB;injection hB with hB; subst hB;rw [zeM hgb]; trivial
   | none =>
    simp only [hgb] at hB;have h0 := hr.sat.blk k B hB
    -- k is none of those handed over
    have hnk : ∀ b, g.O b = some (C.d, k) -> ∀ n, Oc b ≠ some (dc, n) := fun b hb n hn => by
     obtain ⟨k', h1, h2⟩ := (hOc b n).1 hn;rw [hb] at h1; injection h1 with h1; injection h1 with _ h1; subst h1;have hf := (ziu hμ).2 h2
     have hno : ¬ ∃ B, lk hs' n = some B := fun ho => by
      obtain ⟨B2, hB2⟩ := zkk hf ho;rw [hob] at hB2; simp at hB2
     have hno2 : ¬ ∃ B, lk hs n = some B := fun ho => by
      have hn0 : lk hs' n = none := by
       cases hc : lk hs' n with
       | none => rfl
       | some x => exact absurd ⟨x, hc⟩ hno
      obtain ⟨B2, hB2⟩ := ziv hf ho hn0;rw [hgb] at hB2; simp at hB2
     rcases hnew (n, k) (zgD h2) with h1 | h1 | h1
     ·obtain ⟨m, hmk, e⟩ := List.any_eq_true.1 h1;have : m = n := by simpa using e
      subst this;exact hno2 (zhB.1 (hkp m hmk))
     ·exact hno2 (zhB.1 h1.1)
     ·have := h1.2;simp [St.fr] at this;exact (zb1 this.2 hB).2 rfl
    have hk' : k ∉ ch := fun hk => (hfrH k B hB k hk).2 rfl
    refine h0.held hx1.I (fun b hb hO => hkeep b hb (hnk b hO)) (hρn k hk') (fun x v hx hv => hv.renameL hx hρn) (fun k' hk' => (hfrH k B hB k' hk').1) ?_;intro j on hBy;subst hBy;obtain ⟨h1, h2, h3, h4, h5⟩ := h0;refine ⟨h1, h2, h3, fun b n hO => ?_, h2 j on _ _ _ _ _ _ h5 hx1.I (fun b hb hy => hkeep b hb (fun n hn => ?_)) hx1.os hx1.tape hx1.output hx1.drawn hx1.size hio⟩
    ·rcases Nat.lt_or_ge b w.heap.size with hl | hl
     ·obtain ⟨n', hn'⟩ := hown b C.d n hl hO;exact h4 b n' hn'
     ·have := hr.ext.size; omega
    ·obtain ⟨k', p1, _⟩ := (hOc b n).1 hn;rcases hy with hy | ⟨y, m, hy, hm⟩
     ·have := h4 b k' p1; omega
     ·rw [p1] at hm; injection hm with hm; injection hm with e _; exact h1 (e ▸ hy)
 have hv2 : RV I' ρn (r.ren μ) v := by
  refine zoG (L := keys hs') (fun n hn => ?_) hrn hv1;obtain ⟨p, hp, rfl⟩ := List.mem_map.1 hn;obtain ⟨k, hk⟩ := Option.isSome_iff_exists.1 (hout p hp).1;simp only [hk, Option.getD_some, ρn, (ziu hμ).1 hk];rw [if_pos (List.any_eq_true.2 ⟨p, hp, by simp⟩)]
 refine ⟨v, ⟨ρn, I', On⟩, hEe, ?_⟩;show Rel C (zba st μ hs hs' dst r) ⟨ρn, I', On⟩ (a.put dst v) w';cases dst with
 | none => exact ⟨hr.size, hdf, htm, ⟨hio.1, hio.2, hblk⟩, hext⟩
 | some d =>
  refine ⟨by simp [Act.put, hr.size], hdf, fun t y hy => ?_, ⟨hio.1, hio.2, hblk⟩, hext⟩;rw [zaE (by rw [hr.size]; simpa [dOk] using hd)];simp only [zba, consT, yj] at hy;by_cases e : d = t
  ·subst e; simp at hy; rw [if_pos rfl, ← hy]; exact hv2
  ·have : d.beq t = false := beqF.2 e;simp [this] at hy;rw [if_neg e]; exact htm t y hy
theorem zfK {P : Program} {C : Ctx} {st : St} {E : Ending -> Value -> Prop} {dst : Option Tmp} {ty : TypeId} {fop : Operand} {args : Array Operand} {ts : Array TypeId} {f : FuncId} {caps xs as : List AV} {hs hs' : List (Nat × Blk)} {kp : List Nat} {r : AV}
 (μ : List (Nat × Nat)) (h : FnR P f as hs kp E r hs') (hf : ev st fop = some (.fn f caps)) (hx : evs st args.toList = some xs) (hμ : biOk μ = true) (hle : LeL (xs ++ caps) (as.map (AV.ren μ))) (has : as.all (AV.okN (keys hs)) = true) (hrn : r.okN (keys hs') = true)
 (hin : zaj st μ (keys hs) hs) (hout : ∀ p ∈ hs', (fwd μ p.1).isSome = true /\ p.2.okNB (keys hs') = true) (hnew : ∀ p ∈ μ, kp.any (·.beq p.1) = true \/ (hs.any (·.1.beq p.1) = true /\ hs'.any (·.1.beq p.1) = false) \/ (hs.any (·.1.beq p.1) = false /\ st.fr p.2 = true))
 (hkp : ∀ n ∈ kp, hs.any (·.1.beq n) = true) (hd : dOk C.n dst = true) {g : Gh} {a : Act} {w : World} (hr : Rel C st g a w) :
 ∃ A, (∀ pos af gd, (execOp a.eval { dst := dst, op := .call { callee := .value fop, args := args, argTypes := ts }, type := ty, pos := pos, after := af, guard := gd }).run P w = .ok (.enter f A) w) ∧
  Calls P f A w fun e w' => ∃ v g', E e v /\ Rel C (zba st μ hs hs' dst r) g' (a.put dst v) w' := by
 obtain ⟨us, e, hl, hu⟩ := zb2 (yn hr hf);have hargs := zdG hr hx;have hall : RVL g.I g.ρ (as.map (AV.ren μ)) (args.toList.map a.eval ++ us) := hle.rvl (hargs.append ⟨hl, hu⟩);refine ⟨_, fun pos af gd => ?_, zlc (T := Calls P f) (fun h hm => Calls.mono h hm) μ h.2 hμ has hrn hin hout hnew hkp hd hr hall⟩;have e1 : (args.toList.map a.eval ++ us).toArray = args.map a.eval ++ us.toArray := by simp [← Array.toList_map]
 simp only [execOp, resolve, e, Deferred.ofValue, Sem.run_bind, Sem.run_pure, Result.andThen_ok, invoke, zH h.1, e1];simp
theorem zoJ {P : Program} {C : Ctx} {ops : Array Oper} {st : St} {Q : Exit -> St -> Prop} {rest : List Oper} {dst : Option Tmp} {ty : TypeId} {pos : String} {af : Array Edge} {fop : Operand} {args : Array Operand} {ts : Array TypeId} {f : FuncId} {caps xs as : List AV} {hs hs' : List (Nat × Blk)} {kp : List Nat} {r : AV}
 (μ : List (Nat × Nat)) (h : FnO P f as hs kp r hs') (hf : ev st fop = some (.fn f caps)) (hx : evs st args.toList = some xs) (hμ : biOk μ = true) (hle : LeL (xs ++ caps) (as.map (AV.ren μ))) (has : as.all (AV.okN (keys hs)) = true) (hrn : r.okN (keys hs') = true)
 (hin : zaj st μ (keys hs) hs) (hout : ∀ p ∈ hs', (fwd μ p.1).isSome = true /\ p.2.okNB (keys hs') = true) (hnew : ∀ p ∈ μ, kp.any (·.beq p.1) = true \/ (hs.any (·.1.beq p.1) = true /\ hs'.any (·.1.beq p.1) = false) \/ (hs.any (·.1.beq p.1) = false /\ st.fr p.2 = true))
 (hkp : ∀ n ∈ kp, hs.any (·.1.beq n) = true) (hd : dOk C.n dst = true) (hq : Ex P C ops rest (zba st μ hs hs' dst r) Q) :
 Ex P C ops ({ dst := dst, op := .call { callee := .value fop, args := args, argTypes := ts }, type := ty, pos := pos, after := af, guard := none } :: rest) st Q := fun g a w hr =>
 wpListIn_plain rfl fun K hK => zK <| by
 obtain ⟨A, e2, h0⟩ := zfK (dst := dst) (ty := ty) (ts := ts) μ h.r hf hx hμ hle has hrn hin hout hnew hkp hd hr;unfold wp1;rw [e2];refine Calls.mono h0 ?_
 rintro e w' ⟨v, g', rfl, hr'⟩
 exact ⟨v, rfl, hK _ _ (hq g' _ w' hr')⟩
end Go.Rse
namespace Go.Rse
open Go Go.RowKit
theorem zdM {I : Im} {α : Type} {enc : α -> List AV} {l : List α} {s : Nat} {xs : List Value} (hs : ∀ (i : Nat) x, l[i]? = some x -> (enc x).length = s) (hl : xs.length = l.length * s)
 (h : ∀ (i : Nat) x (j : Nat) c v, l[i]? = some x -> (enc x)[j]? = some c -> xs[i * s + j]? = some v -> RV I noNames c v) (hs0 : 0 < s) : RVL I noNames (l.flatMap enc) xs := by
 refine ⟨by rw [hl, zy l hs], fun j c v hc hv => ?_⟩;have hj : j < l.length * s := by rw [← zy l hs]; exact (List.getElem?_eq_some_iff.1 hc).1
 have hq : j / s < l.length := Nat.div_lt_of_lt_mul (by rw [Nat.mul_comm]; exact hj);have hdm : j / s * s + j % s = j := by rw [Nat.mul_comm]; exact Nat.div_add_mod j s
 have hr' : j % s < s := Nat.mod_lt _ hs0;have hp := List.getElem?_eq_getElem hq
 have hc' : (enc l[j / s])[j % s]? = some c := by
  rw [← zcK l hs (j / s) _ (j % s) hp hr', hdm]; exact hc
 exact h (j / s) _ (j % s) c v hp hc' (by rw [hdm]; exact hv)
theorem zkl {α : Type} {enc : α -> List AV} {s : Nat} (he : ∀ x, (enc x).length = s) (l l2 : List α) (i : Nat) (hle : i + l2.length <= l.length) :
 (l.take i ++ l2 ++ l.drop (i + l2.length)).flatMap enc = setAt (l.flatMap enc) (i * s) (l2.flatMap enc) := by
 have h1 : (l.take i).flatMap enc = (l.flatMap enc).take (i * s) := by
  have hlen : ((l.take i).flatMap enc).length = i * s := by rw [zy _ (fun _ x _ => he x), List.length_take, Nat.min_eq_left (by omega)]
  have : l.flatMap enc = (l.take i).flatMap enc ++ (l.drop i).flatMap enc := by rw [← List.flatMap_append, List.take_append_drop]
  rw [this, List.take_append_of_le_length (Nat.le_of_eq hlen.symm), List.take_of_length_le (Nat.le_of_eq hlen)]
 have h2 : ∀ m, m <= l.length -> (l.drop m).flatMap enc = (l.flatMap enc).drop (m * s) := fun m hm => by
  have hlen : ((l.take m).flatMap enc).length = m * s := by rw [zy _ (fun _ x _ => he x), List.length_take, Nat.min_eq_left hm]
  have : l.flatMap enc = (l.take m).flatMap enc ++ (l.drop m).flatMap enc := by rw [← List.flatMap_append, List.take_append_drop]
  rw [this, List.drop_append_of_le_length (Nat.le_of_eq hlen.symm), List.drop_of_length_le (Nat.le_of_eq hlen)];rfl
 simp only [List.flatMap_append, setAt, h1];rw [h2 _ hle, zy l2 (fun _ x _ => he x), Nat.add_mul]
section
variable {P : Program} {C : Ctx} {st : St} {ty : TypeId}
theorem Rel.row_write {g : Gh} {a : Act} {w : World} (hr : Rel C st g a w) {α : Type} {enc : α -> List AV} {l l2 : List α} {E : TypeId} {k s i b : Nat} {vs : List Value} (hk : lk st.h k = some (.row enc l E s)) (he : ∀ x, (enc x).length = s) (hs0 : 0 < s)
 (hvs : RVL g.I noNames (l2.flatMap enc) vs) (hone : ∀ u ∈ vs, u.oneCell' = true) (hle : i + l2.length <= l.length) (hb : yT (g.ρ k) = some b) :
 ∃ w', (storeCells ⟨b, i * s, none⟩ vs 0).run P w = .ok () w' /\ Rel C (putH st k (.row enc (l.take i ++ l2 ++ l.drop (i + l2.length)) E s)) g a w' := by
 obtain ⟨xs, hw, h1, h2, h3⟩ := hr.sat.blk k _ hk;rcases hw.2 with ⟨hv, _⟩ | ⟨b', cap, cur, hv, hb0, hh, hnc, hcm, hcur, htk⟩
 ·rw [hv] at hb; simp [yT] at hb
 ·have : b' = b := by rw [hv] at hb; simpa [yT] using hb
  subst this;have hvl : vs.length = l2.length * s := by rw [hvs.1, zy l2 (fun _ x _ => he x)]
  have hcs : l.length * s <= cap * s := Nat.mul_le_mul_right s hnc;have hil : i * s + l2.length * s <= l.length * s := by rw [← Nat.add_mul]; exact Nat.mul_le_mul_right s hle
  have hst := run_storeCells_at (P := P) b' (i * s) E vs 0 cur w hh (by omega) hone;have hnl : (l.take i ++ l2 ++ l.drop (i + l2.length)).length = l.length := by simp; omega
  refine ⟨_, hst, hr.modify (h3 b' (by rw [hv]; rfl)).1 (h3 b' (by rw [hv]; rfl)).2 zb4 (Nat.le_refl _) ?_⟩;have hcl : cur.toList.length = cap * s := by simpa using hcur
  have hrow := zdM h1 hw.1 h2 hs0;have hset := hrow.setAt hvs (i * s) (by rw [zy l h1, ← hvs.1, hvl]; exact hil);rw [← zkl he l l2 i hle] at hset
  have hx : List.take (l.length * s) (cur.toList.take (i * s + 0) ++ vs ++ cur.toList.drop (i * s + 0 + vs.length)) = xs.take (i * s) ++ vs ++ xs.drop (i * s + vs.length) := by
   rw [← htk];apply List.ext_getElem?;intro j;simp only [Nat.add_zero, List.getElem?_take, List.getElem?_append, List.length_append, List.length_take, hcl, List.getElem?_drop];rw [show min (i * s) (cap * s) = i * s by omega, show min (l.length * s) (cap * s) = l.length * s by omega, show min (i * s) (l.length * s) = i * s by omega];by_cases q0 : j < l.length * s
   ·rw [if_pos q0];by_cases q1 : j < i * s
    ·simp [q1, show j < i * s + vs.length by omega, q0]
    ·by_cases q2 : j < i * s + vs.length
     ·simp [q1, q2]
     ·simp [q2, show i * s + vs.length + (j - (i * s + vs.length)) < l.length * s by omega]
   ·rw [if_neg q0];rw [if_neg (by omega)];rw [if_neg (by omega)]
  refine ⟨xs.take (i * s) ++ vs ++ xs.drop (i * s + vs.length), ⟨?_, .inr ⟨b', cap, (cur.toList.take (i * s + 0) ++ vs ++ cur.toList.drop (i * s + 0 + vs.length)).toArray, by rw [hv, hnl], hb0, setRow_heap w b' cur _ E _ hh, by rw [hnl]; exact hnc, hcm, by simp; omega, by rw [hnl]; simpa using hx⟩⟩, fun i x h => he x, zaP (fun i x h => he x) hset, h3⟩;rw [hnl]; have := hw.1; simp; omega
theorem zdN {α : Type} {enc : α -> List AV} {l : List α} {E T : TypeId} {x y : Operand} {k s i : Nat} {u : AV} {ag : Bool} (x' : α) (hx : ev st x = some (.ptr k s i 0)) (hk : lk st.h k = some (.row enc l E s)) (he : ∀ x, (enc x).length = s) (hs0 : 0 < s)
 (hi : i < l.length) (hy : ev st y = some u) (hu : u.cl = enc x') (hp : zdE u = true) (hsc : scL (enc x') = true) (hnm : AV.nm.nmL (enc x') = true) (ht : tyOk P T ag s = true) : yw P C (.store T x y) ty none st (putH st k (.row enc (l.set i x') E s)) := fun g a w pos af gd hr K hK => by
 obtain ⟨b, hb, e⟩ := zV (yn hr hx);have hcl := zhp (yn hr hy) hp;rw [hu] at hcl;have hvs : RVL g.I noNames ([x'].flatMap enc) (a.eval y).cells.toList := by simpa using hcl.forget hnm
 have hone : ∀ v ∈ (a.eval y).cells.toList, v.oneCell' = true := fun v hv => by
  obtain ⟨q, hq⟩ := List.mem_iff_getElem?.1 hv;have hlt : q < (enc x').length := by rw [← hcl.1]; exact (List.getElem?_eq_some_iff.1 hq).1
  exact (za8 (hcl.2 q _ v (List.getElem?_eq_getElem hlt) hq) (zd7 hsc (List.getElem?_eq_getElem hlt))).2
 obtain ⟨w', h1, h2⟩ := hr.row_write (P := P) (i := i) (l2 := [x']) hk he hs0 hvs hone (by simp; omega) hb
 have hl : l.take i ++ [x'] ++ l.drop (i + [x'].length) = l.set i x' := by
  rw [List.set_eq_take_append_cons_drop, if_pos hi]; simp
 rw [hl] at h2;simp only [wp1, execOp, Instr.storeAt, e, Instr.sureAddr, Sem.run_bind, Sem.run_pure, Result.andThen_ok, storeVar, yX ht, Nat.add_zero];have hsz : (a.eval y).cells.size = s := by have := hcl.1; rw [he] at this; simpa using this
 rw [if_neg (by simp [hsz])];simp only [h1, Result.andThen_ok, zbz];exact hK _ _ _ h2
theorem zI {α : Type} {enc : α -> List AV} {l : List α} {E t : TypeId} {x y : Operand} {k s : Nat} {kk : IntKind} {i : Int} {ag : Bool} (hx : ev st x = some (.own k)) (hk : lk st.h k = some (.row enc l E s)) (hy : ev st y = some (.int kk i)) (ht : slOk P t E = true) (hE : tyOk P E ag s = true)
 (h0 : 0 <= i) (h1 : i <= l.length) : Pur P C (.slice t x (some y) none none) ty st (.sub k s i.toNat (l.length - i.toNat)) := fun g a w dst pos af gd hr => by
 obtain ⟨xs, hw, _⟩ := hr.sat.blk k _ hk;have ek := zU (yn hr hx);have ey := za (yn hr hy)
 have key : ∀ (A : Option Addr) (c : Nat), g.ρ k = .slice A l.length c -> (l.length ≠ 0 -> ∃ b, A = some ⟨b, 0, none⟩) -> l.length <= c →
  ∃ v, (execOp a.eval { dst := dst, op := .slice t x (some y) none none, type := ty, pos := pos, after := af, guard := gd }).run P w = .ok (.value v) w /\ RV g.I g.ρ (.sub k s i.toNat (l.length - i.toNat)) v := fun A c hv hA hc => by
  refine ⟨.slice (if c = i.toNat then A else A.map (·.add (i.toNat * s))) (l.length - i.toNat) (c - i.toNat), ?_, .sub k s _ _ _ _ (fun hm => ?_)⟩
  ·rw [hv] at ek
   have : (Instr.sliceBounds true l.length c (some (.int kk i)) none none).run P w = .ok (i.toNat, l.length, c) w := by
    simp [Instr.sliceBounds, Instr.sliceBound, asIntOf, h0, h1]
   simp [execOp, Instr.sliceAt, Instr.slice, run_underlying (y7 ht), ← ek, ey, this, yX hE]
  ·obtain ⟨b, hb⟩ := hA (by omega);refine ⟨b, by rw [hv, hb]; rfl, ?_⟩;rw [if_neg (by omega), hb];simp [zv]
 rcases hw.2 with ⟨hv, h0'⟩ | ⟨b, cap, cur, hv, _, _, hnc, _⟩
 ·exact key none 0 (by rw [hv, h0']) (fun h => absurd h0' h) (by omega)
 ·exact key _ cap hv (fun _ => ⟨b, rfl⟩) hnc
theorem zqf {α : Type} {enc : α -> List AV} {l : List α} {E t : TypeId} {x : Operand} {k s i m : Nat} {z : Value} {bytes : Nat} (z' : α) (hx : ev st x = some (.sub k s i m)) (hk : lk st.h k = some (.row enc l E s)) (he : ∀ x, (enc x).length = s) (hs0 : 0 < s) (ht : slOk P t E = true) (hi : zL P E z s bytes)
 (hz : cvL z.cells.toList = some (enc z')) (hsc : scL (enc z') = true) (hnm : AV.nm.nmL (enc z') = true) (him : i + m = l.length) : yw P C (.call { callee := .builtin .clear, args := #[x], argTypes := #[t] }) ty none st (putH st k (.row enc (l.take i ++ List.replicate m z') E s)) := fun g a w pos af gd hr K hK => by
 have hxv := yn hr hx;generalize ev' : a.eval x = v at hxv;cases hxv with
 | sub _ _ _ _ c A h =>
 by_cases hm : m = 0
 ·subst hm
  have e0 : (execOp a.eval { dst := none, op := .call { callee := .builtin .clear, args := #[x], argTypes := #[t] }, type := ty, pos := pos, after := af, guard := gd }).run P w = .ok (.value (.tuple #[])) w := by
   cases A <;> simp [execOp, resolve, invoke, builtin, Builtin.clear_, ev', run_underlying (y7 ht)]
  unfold wp1;rw [e0];refine hK _ w g ?_;have e1 : l.take i ++ List.replicate 0 z' = l := by simp; rw [List.take_of_length_le (by omega)]
  rw [e1];refine ⟨hr.size, hr.defers, hr.tmps, ⟨hr.sat.im, hr.sat.ob, fun k' B hB => ?_⟩, hr.ext⟩;simp only [putH, yj] at hB;cases hb : k.beq k' <;> simp [hb] at hB
  ·exact hr.sat.blk k' B hB
  ·have : k = k' := by simpa using hb
   subst this; subst hB; exact hr.sat.blk k _ hk
 ·obtain ⟨b, hb, e⟩ := h hm;obtain ⟨inf, i1, i2, i3, i4, i5⟩ := hi;obtain ⟨hzl, hzv⟩ := zfI (I := g.I) (ρ := noNames) hz
  have hzc : ∀ (q : Nat) (u : Value), (Builtin.zeroCells z.cells m).toList[q]? = some u -> z.cells.toList[q % s]? = some u := fun q u hu => by
   have hq : q < (Builtin.zeroCells z.cells m).toList.length := (List.getElem?_eq_some_iff.1 hu).1;have hq' : q < m * s := by have := size_zeroCells z.cells m; rw [i5] at this; rw [← this]; simpa using hq
   have hqs : q % s < z.cells.size := by rw [i5]; exact Nat.mod_lt _ hs0
   simp only [Builtin.zeroCells, Array.toList_map, Array.toList_range, List.getElem?_map, List.getElem?_range hq', Option.map_some, i5] at hu;injection hu with hu;rw [← hu];simp [hqs]
  have hvs : RVL g.I noNames ((List.replicate m z').flatMap enc) (Builtin.zeroCells z.cells m).toList := by
   refine zdM (fun _ x _ => he x) (by rw [Array.length_toList, size_zeroCells, i5]; simp) (fun q x j c v hx hc hv => ?_) hs0;have hxz : x = z' := (List.mem_replicate.1 (List.mem_of_getElem? hx)).2;subst hxz;have hjs : j < s := by rw [← he x]; exact (List.getElem?_eq_some_iff.1 hc).1
   have := hzc _ v hv;rw [Nat.add_comm, Nat.add_mul_mod_self_right, Nat.mod_eq_of_lt hjs] at this;exact hzv j c v hc this
  have hone : ∀ u ∈ (Builtin.zeroCells z.cells m).toList, u.oneCell' = true := fun u hu => by
   obtain ⟨q, hq⟩ := List.mem_iff_getElem?.1 hu;have hj := hzc q u hq;have hlt : q % s < (enc z').length := by rw [← hzl]; exact (List.getElem?_eq_some_iff.1 hj).1
   exact (za8 (hzv _ _ u (List.getElem?_eq_getElem hlt) hj) (zd7 hsc (List.getElem?_eq_getElem hlt))).2
  obtain ⟨w', h1, h2⟩ := hr.row_write (P := P) (i := i) (l2 := List.replicate m z') hk he hs0 hvs hone (by simp; omega) hb
  have e2 : l.take i ++ List.replicate m z' ++ l.drop (i + (List.replicate m z').length) = l.take i ++ List.replicate m z' := by
   simp; omega
  rw [e2] at h2
  have e0 : (execOp a.eval { dst := none, op := .call { callee := .builtin .clear, args := #[x], argTypes := #[t] }, type := ty, pos := pos, after := af, guard := gd }).run P w = .ok (.value (.tuple #[])) w' := by
   obtain ⟨m', rfl⟩ : ∃ m', m = m' + 1 := ⟨m - 1, by omega⟩;have h1' := h1;simp [execOp, resolve, invoke, builtin, Builtin.clear_, ev', e, run_underlying (y7 ht), zeroValue, typeInfo, i1, i2, h1']
  unfold wp1;rw [e0];exact hK _ w' g h2
end
end Go.Rse
namespace Go.Rse
open Go Go.RowKit
theorem zmh.mk {P : Program} {C : Ctx} {rv : List ResultVar} {r : AV} {vs : List Value} {cs : List AV} {hs' : List (Nat × Blk)} {e : Exit} {st : St} {ts : List (Nat × AV)} (he : e = .normal \/ e = .ret) (hi : Imp C st ⟨ts, (kN, .hold vs cs) :: hs'⟩) (hr : RetVs P ⟨ts, (kN, .hold vs cs) :: hs'⟩ rv r) : zmh P C rv r vs cs hs' e st :=
 ⟨he, ts, hi, hr⟩
theorem zmh.imp {P : Program} {C : Ctx} {rv : List ResultVar} {r : AV} {vs : List Value} {cs : List AV} {hs' : List (Nat × Blk)} {e : Exit} {st st' : St} (hi : Imp C st st') (h : zmh P C rv r vs cs hs' e st') : zmh P C rv r vs cs hs' e st :=
 ⟨h.1, let ⟨ts, h1, h2⟩ := h.2; ⟨ts, hi.trans h1, h2⟩⟩
section
variable {P : Program} {C : Ctx} {st : St} {ty : TypeId}
theorem zqg {ops : Array Oper} {Q : Exit -> St -> Prop} {rest : List Oper} {d : Nat} {op : Op} {pos : String} {af : Array Edge} (φ : Bool -> Prop)
 (hs : ∀ (g : Gh) (a : Act) (w : World) dst pos af gd, Rel C st g a w -> ∃ b, (execOp a.eval { dst := dst, op := op, type := ty, pos := pos, after := af, guard := gd }).run P w = .ok (.value (.bool b)) w /\ φ b) (hd : d.blt C.n = true)
 (h : ∀ b, φ b -> Ex P C ops rest ⟨(d, .bool b) :: st.t, st.h⟩ Q) :
 Ex P C ops ({ dst := some d, op := op, type := ty, pos := pos, after := af, guard := none } :: rest) st Q := fun g a w hr =>
 wpListIn_plain rfl fun K hK => zK <| by
  obtain ⟨b, h1, h2⟩ := hs g a w (some d) pos af none hr;unfold wp1;rw [h1];refine hK _ _ (h b h2 g _ w ?_);exact hr.addSt (d := some d) (nb := none) (Add.refl _ g w) (by simpa [dOk] using hd) rfl (.bool b) hr.sat.im hr.sat.ob (fun _ _ h => by cases h)
theorem Ex.eqNil {α : Type} {enc : α -> List AV} {l : List α} {ops : Array Oper} {Q : Exit -> St -> Prop} {rest : List Oper} {d : Nat} {t E : TypeId} {x : Operand} {yt : TypeId} {pos : String} {af : Array Edge} (hx : ev st x = some (.sl enc l)) (ht : slOk P t E = true) (hd : d.blt C.n = true)
 (h : ∀ b, (b = true -> l = []) -> Ex P C ops rest ⟨(d, .bool b) :: st.t, st.h⟩ Q) :
 Ex P C ops ({ dst := some d, op := .binOp .eql t x (.const (.slice none 0 0)) yt, type := ty, pos := pos, after := af, guard := none } :: rest) st Q :=
 zqg (fun b => b = true -> l = []) (fun g a w dst pos af gd hr => by
  obtain ⟨A, b, o, s', c, vs, e, hA, _⟩ := zb3 (yn hr hx);have e0 : a.eval (.const (.slice none 0 0)) = .slice none 0 0 := rfl;have he : ∀ A : Option Addr, (Op.equal t (.slice A l.length c) (.slice none 0 0)).run P w = .ok A.isNone w := fun A => run_equalIn_slice_nil w 9999 t E A l.length c (y7 ht)
  refine ⟨A.isNone, ?_, fun hn => ?_⟩
  ·simp [execOp, e, e0, eqGuard, binOp, he]
  ·cases A with
   | none =>
    cases l with
    | nil => rfl
    | cons x r => have := hA (by simp); simp at this
   | some A => simp at hn) hd h
theorem zaR {ops : Array Oper} {Q : Exit -> St -> Prop} {rest : List Oper} {dst : Option Tmp} {pos : String} {af : Array Edge} {fop : Operand} {args : Array Operand} {ts : Array TypeId} {f : FuncId} {caps xs as : List AV} {hs hs' : List (Nat × Blk)} {kp : List Nat} {r : AV}
 (μ : List (Nat × Nat)) (h : FnO P f as hs kp r hs') (hf : ev st fop = some (.fn f caps)) (hx : evs st args.toList = some xs) (hμ : biOk μ = true) (hle : LeL (xs ++ caps) (as.map (AV.ren μ))) (has : as.all (AV.okN (keys hs)) = true) (hrn : r.okN (keys hs') = true)
 (hin : zaj st μ (keys hs) hs) (hout : (hs'.all fun p => (fwd μ p.1).isSome && p.2.okNB (keys hs')) = true)
 (hnew : (μ.all fun p => kp.any (·.beq p.1) || (hs.any (·.1.beq p.1) && !(hs'.any (·.1.beq p.1))) || (!(hs.any (·.1.beq p.1)) && st.fr p.2)) = true)
 (hkp : (kp.all fun n => hs.any (·.1.beq n)) = true) (hd : dOk C.n dst = true) (hq : Ex P C ops rest (zba st μ hs hs' dst r) Q) :
 Ex P C ops ({ dst := dst, op := .call { callee := .value fop, args := args, argTypes := ts }, type := ty, pos := pos, after := af, guard := none } :: rest) st Q := by
 refine zoJ μ h hf hx hμ hle has hrn hin (fun p hp => ?_) (fun p hp => ?_) (fun n hn => List.all_eq_true.1 hkp n hn) hd hq
 ·have := List.all_eq_true.1 hout p hp;simpa using this
 ·have := List.all_eq_true.1 hnew p hp;simp only [Bool.or_eq_true, Bool.and_eq_true, Bool.not_eq_true'] at this;rcases this with (h1 | h1) | h1
  ·exact .inl h1
  ·exact .inr (.inl h1)
  ·exact .inr (.inr h1)
end
end Go.Rse
namespace Go.Rse
open Go Go.RowKit
section
variable {P : Program} {C : Ctx} {st : St} {ty : TypeId}
theorem zoK {α : Type} {enc : α -> List AV} {l : List α} {E t : TypeId} {x y : Operand} {k s : Nat} {kk : IntKind} {i : Int} {ag : Bool} {dst : Option Tmp} (hx : ev st x = some (.own k)) (hk : lk st.h k = some (.row enc l E s)) (hy : ev st y = some (.int kk i)) (ht : slOk P t E = true) (hE : tyOk P E ag s = true)
 (h0 : 0 <= i) (h1 : i <= l.length) (hd : dOk C.n dst = true) : yw P C (.slice t x none (some y) none) ty dst st { t := consT dst (.own k) (clT k st.t), h := (k, .row enc (l.take i.toNat) E s) :: clH k st.h } := fun g a w pos af gd hr K hK => by
 obtain ⟨xs, hw, q1, q2, q3⟩ := hr.sat.blk k _ hk;have ek := zU (yn hr hx);have ey := za (yn hr hy);have hlen : (l.take i.toNat).length = i.toNat := by simp; omega
 have key : ∀ (A A' : Option Addr) (c : Nat), g.ρ k = .slice A l.length c -> l.length <= c -> (A' = if c = 0 then A else A.map (·.add (0 * s))) -> y4 C { ρ := fun n => if n = k then .slice A' i.toNat c else g.ρ n, I := g.I, O := g.O } w k (.row enc (l.take i.toNat) E s) →
  wp1 P { dst := dst, op := .slice t x none (some y) none, type := ty, pos := pos, after := af, guard := gd } a w K := fun A A' c hv hc hA' hB => by
  have e0 : (execOp a.eval { dst := dst, op := .slice t x none (some y) none, type := ty, pos := pos, after := af, guard := gd }).run P w = .ok (.value (.slice A' i.toNat c)) w := by
   rw [hv] at ek
   have : (Instr.sliceBounds true l.length c none (some (.int kk i)) none).run P w = .ok (0, i.toNat, c) w := by
    simp [Instr.sliceBounds, Instr.sliceBound, asIntOf, h0, show i <= (c : Int) by omega]
   rw [hA'];simp [execOp, Instr.sliceAt, Instr.slice, run_underlying (y7 ht), ← ek, ey, this, yX hE]
  unfold wp1;rw [e0];refine hK _ w _ (hr.modifyR (g' := { ρ := fun n => if n = k then .slice A' i.toNat c else g.ρ n, I := g.I, O := g.O }) (k := k) (bo := none) rfl (fun n hn => by simp [hn]) (fun _ _ => rfl) (fun b h => by simp at h) ⟨rfl, rfl, rfl, Nat.le_refl _, fun _ _ _ => rfl⟩ (Nat.le_refl _) hr.sat.ob hd (.own k _ _ _ (by simp)) hB)
 rcases hw.2 with ⟨hv, h0'⟩ | ⟨b, cap, cur, hv, hb0, hh, hnc, hcm, hcur, htk⟩
 ·have hi0 : i.toNat = 0 := by omega
  refine key none none 0 (by rw [hv, h0']) (by omega) (by simp) ⟨[], ⟨by simp [hi0], .inl ⟨by simp [hi0], by simp [hi0]⟩⟩, fun j x hx => by simp [hi0] at hx, fun j x j' c v hx => by simp [hi0] at hx, fun b hb => by simp [yT] at hb⟩
 ·have hle : i.toNat * s <= l.length * s := Nat.mul_le_mul_right s (by omega);refine key (some ⟨b, 0, none⟩) (some ⟨b, 0, none⟩) cap hv hnc (by simp [zv]) ⟨xs.take (i.toNat * s), ⟨by rw [hlen]; simp; rw [hw.1]; omega, .inr ⟨b, cap, cur, by simp [hlen], hb0, hh, by omega, hcm, hcur, ?_⟩⟩, fun j x hx => ?_, fun j x j' c v hx hc hv => ?_, fun b' hb' => ?_⟩
  ·rw [hlen, ← htk, List.take_take]; congr 1; omega
  ·rw [List.getElem?_take] at hx; split at hx
   ·exact q1 j x hx
   ·simp at hx
  ·rw [List.getElem?_take] at hx;split at hx
   ·rw [List.getElem?_take] at hv;split at hv
    ·exact q2 j x j' c v hx hc hv
    ·simp at hv
   ·simp at hx
  ·have := q3 b' (by rw [hv]; simpa [yT] using hb');exact this
end
end Go.Rse
namespace Go.Rse
open Go Go.RowKit
theorem zhC {P : Program} {f : FuncId} {as : List AV} {hs : List (Nat × Blk)} {n : Nat} {B : Blk} (n' : Nat) (h : FnO P f as hs [] (.own n) [(n, B)]) (hB : B.nm = true) : FnO P f as hs [] (.own n') [(n', B)] := by
 refine ⟨h.1, fun d ρ I O w args hsat hargs => Calls.mono (h.2 d ρ I O w args hsat hargs) ?_⟩
 rintro e w' ⟨v, ρ', I', O', rfl, hs1, hv, hx, -⟩
 let ρ2 : Nat -> Value := fun k => if k = n' then ρ' n else ρ' k
 let O2 : Owns := fun b => if O' b = some (d, n) then some (d, n') else O' b
 have hO2 : ∀ b p, O2 b = some p -> ∃ m, O' b = some (p.1, m) := fun b p hp => by
  simp only [O2] at hp;split at hp
  ·rename_i e; injection hp with hp; subst hp; exact ⟨n, e⟩
  ·exact ⟨p.2, hp⟩
 have hx2 : Ext (C0 0 d ⟨ρ, I, O⟩ w) ⟨ρ2, I', O2⟩ w' := by
  refine ⟨hx.I, hx.os, hx.tape, hx.output, hx.drawn, hx.size, fun b hb hn ho => ?_, fun b y m hb hy => ?_⟩
  ·obtain ⟨p1, p2⟩ := hx.keep b hb hn ho;refine ⟨p1, ?_⟩;have : O' b ≠ some (d, n) := fun e => hn (.inr ⟨n, by rw [← p2]; exact e⟩)
   show (if O' b = some (d, n) then some (d, n') else O' b) = O b;rw [if_neg this]; exact p2
  ·obtain ⟨m', hm'⟩ := hO2 b (y, m) hy;exact hx.own b y m' hb hm'
 refine ⟨v, ρ2, I', O2, rfl, ⟨fun b o u hI => ?_, ⟨fun b k hO => ?_, hs1.ob.2⟩, fun k B' hB' => ?_⟩, ?_, hx2, fun k hk => by simp at hk⟩
 ·obtain ⟨p1, p2⟩ := hs1.im b o u hI;have p2 : O' b = none := p2;exact ⟨p1, by simp [O2, p2]⟩
 ·obtain ⟨m, hm⟩ := hO2 b k hO;exact hs1.ob.1 b _ hm
 ·simp only [yj] at hB';cases hb : n'.beq k <;> simp [hb] at hB'
  ·simp [lk] at hB'
  ·have : n' = k := by simpa using hb
   subst this; subst hB';refine y4.move (hs1.blk n B (by simp [yj])) hB rfl (by simp [ρ2]) (fun b hb2 => ?_);have hb2 : O' b = some (d, n) := hb2;have h3 : O2 b = some (d, n') := by simp [O2, hb2]
   exact ⟨h3, hx2.okb b n' h3⟩
 ·have := zU hv;cases hv;rename_i A m c h4;exact .own n' A m c (by simp [ρ2, h4])
end Go.Rse
namespace Go.Rse
open Go Go.RowKit
end Go.Rse
namespace Go.Rse
open Go Go.RowKit
section
variable {P : Program} {C : Ctx} {st st' : St} {ty : TypeId}
theorem yo {dst : Option Tmp} {op : Op} {x : AV} {nb : Option (Nat × Blk)} (hs : yr P C op ty st x nb) (hd : dOk C.n dst = true) (hn : nbOk st nb = true) : yw P C op ty dst st (Rse.addSt st dst x nb) := fun g a w pos af gd hr K hK =>
 hs g a w dst pos af gd hr K fun v w' g' h2 h3 h4 h5 => hK _ _ g' (hr.addSt h2 hd hn h3 h4.1 h4.2 h5)
theorem yw.imp {dst : Option Tmp} {op : Op} {st1 : St} (hs : yw P C op ty dst st st1) (hi : Imp C st1 st') : yw P C op ty dst st st' := fun g a w pos af gd hr K hK =>
 hs g a w pos af gd hr K fun a' w' g' h' => let ⟨g2, h2⟩ := hi g' a' w' h'; hK a' w' g2 h2
def zhD (P : Program) (C : Ctx) (ops : Array Oper) (i : Nat) (st st' : St) : Prop := ∃ o, ops[i]? = some o /\ o.guard = none /\ yw P C o.op o.type o.dst st st'
theorem yh {ops : Array Oper} {i : Nat} {dst : Option Tmp} {op : Op} {pos : String} {af : Array Edge} (ho : ops[i]? = some { dst := dst, op := op, type := ty, pos := pos, after := af, guard := none }) (hs : yw P C op ty dst st st') : zhD P C ops i st st' := ⟨_, ho, rfl, hs⟩
def HAll (P : Program) (C : Ctx) (ops : Array Oper) (sts : List St) : List (Nat × Nat × Nat) -> Prop
 | [] => True
 | (p, i, q) :: r => (∃ s s', sts[p]? = some s /\ sts[q]? = some s' /\ zhD P C ops i s s') /\ HAll P C ops sts r
theorem HAll.get {ops : Array Oper} {sts : List St} : ∀ {es : List (Nat × Nat × Nat)}, HAll P C ops sts es -> ∀ {p i q : Nat}, (p, i, q) ∈ es -> ∃ s s', sts[p]? = some s /\ sts[q]? = some s' /\ zhD P C ops i s s'
 | (p', i', q') :: r, h, p, i, q, hm => by
  rcases List.mem_cons.1 hm with e | hm
  ·injection e with e1 e2; injection e2 with e2 e3; subst e1; subst e2; subst e3; exact h.1
  ·exact HAll.get h.2 hm
def zoL (ops : Array Oper) (ds : List (List Bool)) (es : List (Nat × Nat × Nat)) : Bool :=
 (List.range ds.length).all fun p => match ds[p]? with
  | none => false
  | some l => (l.length == ops.size) && (l.all id || (!(Region.ready .any ops l.toArray).isEmpty && (Region.ready .any ops l.toArray).all fun i => es.any fun e => e.1 == p && (e.2.1 == i && ds[e.2.2]? == some (l.set i true))))
def zz (l : List Bool) : Nat := (l.filter fun b => !b).length
theorem zc7 : ∀ {l : List Bool} {i : Nat}, l[i]? = some false -> zz l = zz (l.set i true) + 1
 | b :: l, 0, h => by simp at h; subst h; simp [zz]
 | b :: l, i + 1, h => by
  have := zc7 (l := l) (i := i) (by simpa using h);unfold zz at *
  cases b <;> simp [List.filter_cons] at * <;> omega
theorem zcl : ∀ {l : List Bool}, zz l = 0 -> l.all id = true
 | [], _ => rfl
 | b :: l, h => by
  unfold zz at h;cases b
  ·simp [List.filter_cons] at h
  ·simp only [List.filter_cons, Bool.not_true, Bool.false_eq_true, if_false] at h;simpa using zcl (l := l) h
theorem drawN {ops : Array Oper} {Q : Exit -> St -> Prop} {sts : List St} {ds : List (List Bool)} {es : List (Nat × Nat × Nat)} (hc : zoL ops ds es = true) (hs : HAll P C ops sts es) (hlen : ds.length = sts.length) (hend : ∀ (p : Nat) l s, ds[p]? = some l -> l.all id = true -> sts[p]? = some s -> Q .normal s) :
 ∀ (n p : Nat) (l : List Bool) (s : St) (g : Gh) (a : Act) (w : World), ds[p]? = some l -> sts[p]? = some s -> zz l = n -> Rel C s g a w -> wpAnyIn C.F 0 P .any ops (lift C Q) n l.toArray a w := by
 have hcov : ∀ p l, ds[p]? = some l -> l.length = ops.size /\ (l.all id = true \/ (Region.ready .any ops l.toArray ≠ [] /\ ∀ i ∈ Region.ready .any ops l.toArray, ∃ q, (p, i, q) ∈ es /\ ds[q]? = some (l.set i true))) := fun p l hp => by
  have h1 := List.all_eq_true.1 hc p (by simpa using (List.getElem?_eq_some_iff.1 hp).1);rw [hp] at h1;simp only [Bool.and_eq_true, beq_iff_eq, Bool.or_eq_true, Bool.not_eq_true'] at h1;refine ⟨h1.1, ?_⟩;rcases h1.2 with h | ⟨h2, h3⟩
  ·exact .inl h
  ·refine .inr ⟨fun e => by rw [e] at h2; simp at h2, fun i hi => ?_⟩;have h4 := List.all_eq_true.1 h3 i hi;obtain ⟨⟨p', i', q⟩, hm, h5⟩ := List.any_eq_true.1 h4;simp only [Bool.and_eq_true, beq_iff_eq] at h5;obtain ⟨e1, e2, e3⟩ := h5;subst e1; subst e2;exact ⟨q, hm, e3⟩
 intro n
 induction n with
 | zero =>
  intro p l s g a w hp hsp hn hr;have hall := zcl hn;refine ⟨List.eq_nil_iff_forall_not_mem.2 fun i hi => ?_, s, g, hr, hend p l s hp hall hsp⟩;obtain ⟨h1, h2, _⟩ := zi.1 hi;have hlt : i < l.length := by rw [(hcov p l hp).1]; exact h1
  have h3 := List.all_eq_true.1 hall _ (List.getElem_mem hlt);simp [Array.getD_eq_getD_getElem?, hlt] at h2 h3;rw [h3] at h2; cases h2
 | succ n ih =>
  intro p l s g a w hp hsp hn hr;obtain ⟨hl, hor⟩ := hcov p l hp
  have hnot : ¬ l.all id = true := fun h => by
   have : zz l = 0 := by
    unfold zz;rw [List.filter_eq_nil_iff.2 (fun b hb => by have := List.all_eq_true.1 h b hb; simpa using this)]; rfl
   omega
  rcases hor with h | ⟨hne, hrd⟩
  ·exact absurd h hnot
  ·refine ⟨fun e => absurd e hne, fun i hi => ?_⟩;obtain ⟨q, hm, hq⟩ := hrd i hi;obtain ⟨s1, s2, h1, h2, o, ho, hg, hst⟩ := hs.get hm;rw [hsp] at h1; injection h1 with h1; subst h1;obtain ⟨r1, r2, _⟩ := zi.1 hi;have hlt : i < l.length := by rw [hl]; exact r1
   have hif : l[i]? = some false := by
    simp [Array.getD_eq_getD_getElem?, hlt] at r2;rw [List.getElem?_eq_getElem hlt, r2]
   simp only [wpOpIn, ho];obtain ⟨dst, op, ty, pos, af, gd⟩ := o;simp only at hg; subst hg;have hw : Region.wanted { dst := dst, op := op, type := ty, pos := pos, after := af, guard := none } (yielded ops a.tmps) = true := rfl;rw [if_pos hw];refine zK (hst g a w pos af none hr _ fun a' w' g' h' => ?_);have e : l.toArray.setIfInBounds i true = (l.set i true).toArray := by simp
   rw [e];exact ih q (l.set i true) s2 g' a' w' hq h2 (by have := zc7 hif; omega) h'
theorem X.drawN {rid : Nat} {l : List Oper} {Q : Exit -> St -> Prop} (sts : List St) (ds : List (List Bool)) (es : List (Nat × Nat × Nat)) (hm : P.follows .mixedOrders = true) {s0 : St} (h0 : ds[0]? = some (List.replicate l.length false)) (hs0 : sts[0]? = some s0) (hi : Imp C st s0) (hc : zoL l.toArray ds es = true) (hlen : ds.length = sts.length)
 (hs : HAll P C l.toArray sts es) (hend : ∀ (p : Nat) d s, ds[p]? = some d -> d.all id = true -> sts[p]? = some s -> Q .normal s) : X P C (.region rid l.toArray true) st Q := fun g a w hr => by
 refine wpIn_region_any hm ?_;obtain ⟨g1, hr1⟩ := hi g a w hr;have hr' : Rel C s0 g1 a w.drew := hr1.add (nk := none) (d := none) (x := .any) (v := .nilIface) ⟨Im.le_refl _, fun _ _ => rfl, fun _ _ => rfl, Grow.drew w⟩ (fun k h => by simp at h) (fun t h => by simp at h) (.any _) hr1.sat.im hr1.sat.ob;have h := Rse.drawN hc hs hlen hend (zz (List.replicate l.length false)) 0 _ s0 g1 a w.drew h0 hs0 rfl hr';have e1 : zz (List.replicate l.length false) = l.toArray.size := by simp [zz]
 have e2 : (List.replicate l.length false).toArray = Array.replicate l.toArray.size false := by simp
 rw [e1, e2] at h;exact h
end
end Go.Rse
namespace Go.Rse
open Go Go.RowKit
section
variable {P : Program} {C : Ctx} {st : St} {ty : TypeId}
theorem zaM {α : Type} (enc : α -> List AV) (E s b k E0 : Nat) (ht : lk st.h b = some (.box [.nils] E0)) (hf : st.fr k = true) : Imp C st { t := st.t, h := (b, .box [.own k] E0) :: (k, .row enc [] E s) :: st.h } := fun g a w hr => by
 have hbk : b ≠ k := fun e => by
  subst e;simp [St.fr] at hf;exact (zb1 hf.2 ht).2 rfl
 obtain ⟨b1, vs, e1, e2, e3, e4, e5, e6⟩ := hr.sat.blk b _ ht
 have ha : Add (some k) g w { ρ := fun n => if n = k then .slice none 0 0 else g.ρ n, I := g.I, O := g.O } w := ⟨Im.le_refl _, fun n hn => by
  have : n ≠ k := fun e => hn (by rw [e])
  simp [this], fun _ _ => rfl, Grow.refl w⟩
 have h1 := hr.add (d := none) (x := .any) (v := .nilIface) ha (fun n hn => by injection hn with hn; subst hn; exact hf) (fun t h => by simp at h) (.any _) hr.sat.im hr.sat.ob;have h2 := h1.withBlk (k := k) (B := .row enc [] E s) ⟨[], ⟨by simp, .inl ⟨by simp, rfl⟩⟩, fun i x h => by simp at h, fun i x j c v h => by simp at h, fun b hb => by simp [yT] at hb⟩;refine ⟨_, h2.withBlk (k := b) (B := .box [.own k] E0) ⟨b1, vs, by simp [hbk, e1], e2, e3, e4, e5, fun j c v hc hv => ?_⟩⟩
 have hj : j = 0 := by
  have := (List.getElem?_eq_some_iff.1 hc).1;simp at this; omega
 subst hj;simp at hc; subst hc;have := za4 (e6 0 .nils v rfl hv);rw [this];exact .own k none 0 0 (by simp)
end
end Go.Rse
namespace Go.Rse
open Go Go.RowKit
structure Fl : Type 1 where
 i : Nat
 d : Nat
 x : AV
 as : List Nat
def SP (b : St) (fl : List Fl) (β : Nat -> Bool) : St := ⟨fl.map (fun f => (f.d, .ifb (β f.i) f.x)) ++ rmK (fl.map (·.d)) b.t, b.h⟩
def RP (b : St) (fl : List Fl) (as : List Nat) : St := ⟨(fl.filter fun f => memb f.i as).map (fun f => (f.d, f.x)) ++ rmK (fl.map (·.d)) b.t, b.h⟩
theorem zhE {g : Fl -> AV} : ∀ {fl : List Fl} {b : List (Nat × AV)} {t : Nat} {x : AV}, lk (fl.map (fun f => (f.d, g f)) ++ b) t = some x -> (∃ f ∈ fl, f.d = t /\ g f = x) \/ ((∀ f ∈ fl, f.d ≠ t) /\ lk b t = some x)
 | [], b, t, x, h => .inr ⟨fun f hf => by simp at hf, by simpa using h⟩
 | f :: r, b, t, x, h => by
  simp only [List.map_cons, List.cons_append, yj] at h;cases hb : f.d.beq t <;> simp [hb] at h
  ·have hne : f.d ≠ t := fun e => by subst e; simp at hb
   rcases zhE h with ⟨f', h1, h2, h3⟩ | ⟨h1, h2⟩
   ·exact .inl ⟨f', by simp [h1], h2, h3⟩
   ·exact .inr ⟨fun f' hf => by
     rcases List.mem_cons.1 hf with rfl | hf
     ·exact hne
     ·exact h1 f' hf, h2⟩
  ·exact .inl ⟨f, by simp, by simpa using hb, h⟩
theorem zjx {g : Fl -> AV} : ∀ {fl : List Fl} {b : List (Nat × AV)} {f : Fl}, (fl.map (·.d)).Nodup -> f ∈ fl -> lk (fl.map (fun f => (f.d, g f)) ++ b) f.d = some (g f)
 | f0 :: r, b, f, hn, hf => by
  simp only [List.map_cons, List.nodup_cons] at hn;simp only [List.map_cons, List.cons_append, yj];rcases List.mem_cons.1 hf with rfl | hf
  ·simp
  ·have hne : f0.d ≠ f.d := fun e => hn.1 (by rw [e]; exact List.mem_map.2 ⟨f, hf, rfl⟩)
   simp only [beqF.2 hne, cond_false];exact zjx hn.2 hf
theorem zjy {g : Fl -> AV} : ∀ {fl : List Fl} {b : List (Nat × AV)} {t : Nat}, (∀ f ∈ fl, f.d ≠ t) -> lk (fl.map (fun f => (f.d, g f)) ++ b) t = lk b t
 | [], b, t, _ => rfl
 | f :: r, b, t, h => by
  simp only [List.map_cons, List.cons_append, yj, beqF.2 (h f (by simp)), cond_false];exact zjy fun f' hf => h f' (by simp [hf])
theorem zcN {α : Type 1} {g : α -> Nat} : ∀ {l : List α}, (l.map g).Nodup -> ∀ {x y : α}, x ∈ l -> y ∈ l -> g x = g y -> x = y
 | a :: r, hn, x, y, hx, hy, e => by
  simp only [List.map_cons, List.nodup_cons] at hn;rcases List.mem_cons.1 hx with h1 | h1
  ·rcases List.mem_cons.1 hy with h2 | h2
   ·rw [h1, h2]
   ·exact absurd (List.mem_map.2 ⟨y, h2, by rw [← e, h1]⟩) hn.1
  ·rcases List.mem_cons.1 hy with h2 | h2
   ·exact absurd (List.mem_map.2 ⟨x, h1, by rw [e, h2]⟩) hn.1
   ·exact zcN hn.2 h1 h2 e
section
variable {P : Program} {C : Ctx} {st st' : St}
theorem Rel.slots {g : Gh} {a : Act} {w : World} (h : Rel C st g a w) (hh : st'.h = st.h) (ht : ∀ t x, lk st'.t t = some x -> RV g.I g.ρ x (a.tmps.getD t undef)) : Rel C st' g a w :=
 ⟨h.size, h.defers, ht, ⟨h.sat.im, h.sat.ob, fun k B hB => h.sat.blk k B (by rw [← hh]; exact hB)⟩, h.ext⟩
theorem zrF {b : St} {fl : List Fl} {β : Nat -> Bool} {as : List Nat} (hn : (fl.map (·.d)).Nodup) (hβ : ∀ f ∈ fl, f.i ∈ as -> β f.i = true) {g : Gh} {a : Act} {w : World} (h : Rel C (SP b fl β) g a w) : Rel C (RP b fl as) g a w := by
 refine h.slots rfl fun t x hx => ?_
 have hx : lk ((fl.filter fun f => memb f.i as).map (fun f => (f.d, f.x)) ++ rmK (fl.map (·.d)) b.t) t = some x := hx;rcases zhE hx with ⟨f, hf, rfl, rfl⟩ | ⟨_, h2⟩
 ·rw [List.mem_filter] at hf;have h1 : RV g.I g.ρ (.ifb (β f.i) f.x) _ := h.tmps f.d _ (zjx (g := fun f => .ifb (β f.i) f.x) hn hf.1);exact zma h1 (hβ f hf.1 (yU.1 hf.2))
 ·have h3 := (zhr h2).1;refine h.tmps t x ?_;show lk (fl.map (fun f => (f.d, .ifb (β f.i) f.x)) ++ rmK (fl.map (·.d)) b.t) t = some x;rw [zjy (g := fun f => .ifb (β f.i) f.x) (fun f hf e => ?_)]
  ·exact h2
  ·have : memb t (fl.map (·.d)) = true := yU.2 (List.mem_map.2 ⟨f, hf, e⟩);rw [h3] at this; simp at this
theorem zcO {b : St} {fl : List Fl} {β β' : Nat -> Bool} (h : ∀ f ∈ fl, β f.i = β' f.i) : SP b fl β = SP b fl β' := by
 unfold SP;rw [List.map_congr_left fun f hf => by rw [h f hf]]
def zrG (core : List (Nat × List Nat)) (f : Fl) (j : Nat) : Bool := (List.range core.length).any fun q => match core[q]? with
 | some c => (memb c.1 f.as && j.ble q) || (q.blt j && memb f.i c.2)
 | none => false
def PhOk (P : Program) (C : Ctx) (ops : Array Oper) (core : List (Nat × List Nat)) (fl : List Fl) (b : St) (f : Fl) (j : Nat) : Prop := zrG core f j = true \/ ∃ o, ops[f.i]? = some o /\ o.guard = none /\ o.dst = some f.d /\ f.d.blt C.n = true /\ Pur P C o.op o.type (RP b fl f.as) f.x
def zmj (P : Program) (C : Ctx) (ops : Array Oper) (core : List (Nat × List Nat)) (fl : List Fl) (b : St) (j : Nat) : List Fl -> Prop
 | [] => True
 | f :: r => PhOk P C ops core fl b f j /\ zmj P C ops core fl b j r
theorem zmj.get {ops : Array Oper} {core : List (Nat × List Nat)} {fl : List Fl} {b : St} {j : Nat} : ∀ {l : List Fl}, zmj P C ops core fl b j l -> ∀ f ∈ l, PhOk P C ops core fl b f j
 | g :: r, h, f, hf => by
  rcases List.mem_cons.1 hf with rfl | hf
  ·exact h.1
  ·exact h.2.get f hf
def zhF : List (Nat × List Nat) -> Bool
 | c :: c' :: r => memb c.1 c'.2 && zhF (c' :: r)
 | _ => true
theorem zeN : ∀ {core : List (Nat × List Nat)}, zhF core = true -> ∀ {q : Nat} {c c' : Nat × List Nat}, core[q]? = some c -> core[q + 1]? = some c' -> c.1 ∈ c'.2
 | a :: b :: r, h, 0, c, c', h1, h2 => by
  simp only [zhF, Bool.and_eq_true] at h;simp at h1 h2; subst h1; subst h2; exact yU.1 h.1
 | a :: b :: r, h, q + 1, c, c', h1, h2 => by
  simp only [zhF, Bool.and_eq_true] at h;exact zeN (core := b :: r) h.2 (by simpa using h1) (by simpa using h2)
 | [a], h, q, c, c', h1, h2 => by simp at h2
 | [], h, q, c, c', h1, h2 => by simp at h1
def zfL (ops : Array Oper) (fl : List Fl) (core : List (Nat × List Nat)) : Bool :=
 zc5 ops && decide ((fl.map (·.d)).Nodup) && decide ((fl.map (·.i) ++ core.map (·.1)).Nodup) && ((List.range ops.size).all fun i => memb i (fl.map (·.i)) || memb i (core.map (·.1))) && (fl.all fun f => zbA ops f.i f.as) && (core.all fun c => zbA ops c.1 c.2) && zhF core
theorem zdO : ∀ {m : Nat} {l : List Bool}, (∃ i : Nat, i < m /\ l[i]? = some false) -> ∃ i : Nat, l[i]? = some false /\ ∀ k : Nat, k < i -> l[k]? ≠ some false
 | 0, l, ⟨i, h, _⟩ => by omega
 | m + 1, l, ⟨i, h, hi⟩ => by
  by_cases h2 : ∃ i : Nat, i < m /\ l[i]? = some false
  ·exact zdO h2
  ·refine ⟨i, hi, fun k hk e => h2 ⟨k, by omega, e⟩⟩
theorem drawP {ops : Array Oper} {Q : Exit -> St -> Prop} {fl : List Fl} {core : List (Nat × List Nat)} {bs : Nat -> St} (hp : zfL ops fl core = true) (hF : ∀ j, j <= core.length -> zmj P C ops core fl (bs j) j fl)
 (hM : ∀ j c, core[j]? = some c -> ∀ β : Nat -> Bool, (∀ a ∈ c.2, β a = true) -> zhD P C ops c.1 (SP (bs j) fl β) (SP (bs (j + 1)) fl β)) (hend : Q .normal (SP (bs core.length) fl fun _ => true)) :
 ∀ (n : Nat) (l : List Bool) (j : Nat) (g : Gh) (a : Act) (w : World), l.length = ops.size -> zct ops l.toArray -> zz l = n -> j <= core.length -> (∀ q c, core[q]? = some c -> (l.toArray.getD c.1 false = true ↔ q < j)) -> Rel C (SP (bs j) fl fun i => l.toArray.getD i false) g a w →
 wpAnyIn C.F 0 P .any ops (lift C Q) n l.toArray a w := by
 simp only [zfL, Bool.and_eq_true, decide_eq_true_eq] at hp;obtain ⟨⟨⟨⟨⟨⟨he, hnd⟩, hni⟩, hall⟩, hfa⟩, hca⟩, hcc⟩ := hp
 have hdir : ∀ i, i < ops.size -> ∀ j ∈ dir ops i, j < i := fun i hi j hj => by
  have := List.all_eq_true.1 (List.all_eq_true.1 he i (by simpa using hi)) j hj;simpa using this
 have hnf : (fl.map (·.i)).Nodup := (List.nodup_append.1 hni).1;have hnc : (core.map (·.1)).Nodup := (List.nodup_append.1 hni).2.1;have hdj : ∀ f ∈ fl, ∀ c ∈ core, f.i ≠ c.1 := fun f hf c hc => (List.nodup_append.1 hni).2.2 _ (List.mem_map.2 ⟨f, hf, rfl⟩) _ (List.mem_map.2 ⟨c, hc, rfl⟩)
 have hget : ∀ (l : List Bool) (i : Nat), i < l.length -> (l.toArray.getD i false = true ↔ l[i]? = some true) := fun l i h => by
  simp [Array.getD_eq_getD_getElem?, h]
 intro n
 induction n with
 | zero =>
  intro l j g a w hl hcl hn hj hq hr;have hal := zcl hn
  have htrue : ∀ i, i < l.length -> l.toArray.getD i false = true := fun i hi => by
   have := List.all_eq_true.1 hal _ (List.getElem_mem hi);simp [Array.getD_eq_getD_getElem?, hi]; simpa using this
  refine ⟨List.eq_nil_iff_forall_not_mem.2 fun i hi => ?_, ?_⟩
  ·obtain ⟨h1, h2, _⟩ := zi.1 hi;rw [zai (by simpa [hl] using h1), htrue i (by omega)] at h2;cases h2
  ·have hidx : ∀ i, i ∈ fl.map (·.i) ++ core.map (·.1) -> l.toArray.getD i false = true \/ ops.size <= i := fun i _ => by
    rcases Nat.lt_or_ge i ops.size with h | h
    ·exact .inl (htrue i (by omega))
    ·exact .inr h
   have hj2 : j = core.length := by
    rcases Nat.lt_or_ge j core.length with h | h
    ·exfalso;obtain ⟨c, hc⟩ : ∃ c, core[j]? = some c := ⟨_, List.getElem?_eq_getElem h⟩;have h1 : ¬ l.toArray.getD c.1 false = true := fun e => by have := (hq j c hc).1 e; omega
     rcases hidx c.1 (List.mem_append_right _ (List.mem_map.2 ⟨c, List.mem_of_getElem? hc, rfl⟩)) with h2 | h2
     ·exact h1 h2
     ·obtain ⟨o, ho, _⟩ := hM j c hc (fun _ => true) (fun _ _ => rfl);have := (Array.getElem?_eq_some_iff.1 ho).1;omega
    ·omega
   subst hj2;refine ⟨_, g, hr, ?_⟩
   have hcg : SP (bs core.length) fl (fun i => l.toArray.getD i false) = SP (bs core.length) fl fun _ => true := zcO fun f hf => by
    rcases hidx f.i (List.mem_append_left _ (List.mem_map.2 ⟨f, hf, rfl⟩)) with h2 | h2
    ·exact h2
    ·rcases (hF core.length (Nat.le_refl _)).get f hf with h3 | ⟨o, ho, _⟩
     ·exfalso;obtain ⟨q, _, h4⟩ := List.any_eq_true.1 h3;cases hc : core[q]? with
      | none => simp [hc] at h4
      | some c =>
       simp only [hc, Bool.or_eq_true, Bool.and_eq_true] at h4;have hqlt := (List.getElem?_eq_some_iff.1 hc).1;rcases h4 with ⟨_, h5⟩ | ⟨_, h5⟩
       ·have : core.length <= q := by simpa using h5
        omega
       ·have hcl2 := (hq q c hc).2 hqlt;obtain ⟨o, ho, _⟩ := hM q c hc (fun _ => true) (fun _ _ => rfl);have hcs := (Array.getElem?_eq_some_iff.1 ho).1;have h6 := yY hcl (hcl c.1 hcs hcl2) (List.all_eq_true.1 hca c (List.mem_of_getElem? hc)) f.i (yU.1 h5)
        have : f.i < l.length := by
         rcases Nat.lt_or_ge f.i l.length with h | h
         ·exact h
         ·simp [Array.getD_eq_getD_getElem?, List.getElem?_eq_none h] at h6
        omega
     ·have := (Array.getElem?_eq_some_iff.1 ho).1;omega
   rw [hcg]; exact hend
 | succ n ih =>
  intro l j g a w hl hcl hn hj hq hr
  have hex : ∃ i : Nat, l[i]? = some false /\ ∀ k : Nat, k < i -> l[k]? ≠ some false := by
   refine zdO (m := l.length) ?_;refine Classical.byContradiction fun hno => ?_
   have : zz l = 0 := by
    unfold zz;rw [List.filter_eq_nil_iff.2 (fun b hb => ?_)]; rfl;obtain ⟨i, hi⟩ := List.mem_iff_getElem?.1 hb;cases b
    ·exact absurd ⟨i, (List.getElem?_eq_some_iff.1 hi).1, hi⟩ hno
    ·simp
   omega
  have hne : Region.ready .any ops l.toArray ≠ [] := fun e => by
   obtain ⟨i, hi, hmin⟩ := hex;have hlt := (List.getElem?_eq_some_iff.1 hi).1
   have : i ∈ Region.ready .any ops l.toArray := zi.2 ⟨by omega, by simp [Array.getD_eq_getD_getElem?, hi], fun k hk => by
    have hki := hdir i (by omega) k hk;rw [hget l k (by omega)];have h1 := hmin k hki;have h2 : l[k]? = some l[k] := List.getElem?_eq_getElem (by omega);cases hb : l[k]
    ·rw [hb] at h2; exact absurd h2 h1
    ·rw [hb] at h2; exact h2⟩
   rw [e] at this; simp at this
  refine ⟨fun e => absurd e hne, fun i hi => ?_⟩;obtain ⟨r1, r2, r3⟩ := zi.1 hi;have hlt : i < l.length := by omega
  have hif : l[i]? = some false := by
   simp [Array.getD_eq_getD_getElem?, hlt] at r2;rw [List.getElem?_eq_getElem hlt, r2]
  have hil : l.toArray.getD i false = false := by simp [Array.getD_eq_getD_getElem?, hif]
  have es : l.toArray.setIfInBounds i true = (l.set i true).toArray := by simp
  have hset : ∀ k, (l.set i true).toArray.getD k false = if i = k then true else l.toArray.getD k false := fun k => by
   rw [← es]; exact zj (by simpa using hlt)
  have hcl2 : zct ops (l.set i true).toArray := fun k hk hkl m hm => by
   rw [hset] at hkl ⊢;by_cases e : i = m
   ·rw [if_pos e]
   ·rw [if_neg e];by_cases e2 : i = k
    ·subst e2; exact r3 m hm
    ·rw [if_neg e2] at hkl; exact hcl k hk hkl m hm
  have hn2 : zz (l.set i true) = n := by have := zc7 hif; omega
  have hmem : i ∈ fl.map (·.i) \/ i ∈ core.map (·.1) := by
   have := List.all_eq_true.1 hall i (by simpa using r1);simp only [Bool.or_eq_true] at this;rcases this with h | h
   ·exact .inl (yU.1 h)
   ·exact .inr (yU.1 h)
  rcases hmem with hm | hm
  ·obtain ⟨f, hf, rfl⟩ := List.mem_map.1 hm;rcases (hF j hj).get f hf with h3 | ⟨o, ho, hg, hd, hdn, hpur⟩
   ·exfalso;obtain ⟨q, _, h4⟩ := List.any_eq_true.1 h3;cases hc : core[q]? with
    | none => simp [hc] at h4
    | some c =>
     simp only [hc, Bool.or_eq_true, Bool.and_eq_true] at h4;rcases h4 with ⟨h5, h6⟩ | ⟨h5, h6⟩
     ·have h7 := yY hcl r3 (List.all_eq_true.1 hfa f hf) c.1 (yU.1 h5);have := (hq q c hc).1 h7;have : j <= q := by simpa using h6
      omega
     ·have hqj : q < j := by simpa using h5
      have h7 := (hq q c hc).2 hqj;obtain ⟨o, ho, _⟩ := hM q c hc (fun _ => true) (fun _ _ => rfl);have h8 := yY hcl (hcl c.1 (Array.getElem?_eq_some_iff.1 ho).1 h7) (List.all_eq_true.1 hca c (List.mem_of_getElem? hc)) f.i (yU.1 h6);rw [hil] at h8; cases h8
   ·have hrR := zrF (as := f.as) hnd (fun f' hf' hin => yY hcl r3 (List.all_eq_true.1 hfa f hf) f'.i hin) hr;obtain ⟨dst, op, ty, pos, af, gd⟩ := o;simp only at hg hd hpur; subst hg; subst hd;simp only [wpOpIn, ho];have hw : Region.wanted { dst := some f.d, op := op, type := ty, pos := pos, after := af, guard := none } (yielded ops a.tmps) = true := rfl;rw [if_pos hw];refine zK (hpur.stepA g a w (some f.d) pos af none hrR _ fun v w' g' h2 h3 h4 h5 => ?_);rw [es];refine ih (l.set f.i true) j g' _ w' (by simpa using hl) hcl2 hn2 hj (fun q c hc => ?_) ?_
    ·rw [hset, if_neg (hdj f hf c (List.mem_of_getElem? hc))]; exact hq q c hc
    ·have h6 := hr.addSt (d := some f.d) (nb := none) h2 hdn rfl h3 h4.1 h4.2 (fun _ _ h => by cases h);refine h6.slots rfl fun t x hx => ?_
     have hx : lk (fl.map (fun f' => (f'.d, .ifb ((l.set f.i true).toArray.getD f'.i false) f'.x)) ++ rmK (fl.map (·.d)) (bs j).t) t = some x := hx;rcases zhE (g := fun f' => .ifb ((l.set f.i true).toArray.getD f'.i false) f'.x) hx with ⟨f', hf', rfl, rfl⟩ | ⟨h7, h8⟩
     ·by_cases e : f'.i = f.i
      ·have : f' = f := zcN hnf hf' hf e;subst this;have h9 : lk ((f'.d, f'.x) :: (SP (bs j) fl fun i => l.toArray.getD i false).t) f'.d = some f'.x := by simp [yj]
       exact .ifb _ _ _ fun _ => h6.tmps f'.d f'.x h9
      ·have hdne : f.d ≠ f'.d := fun e2 => e (congrArg Fl.i (zcN hnd hf' hf e2.symm))
       have h9 : lk ((f.d, f.x) :: (SP (bs j) fl fun i => l.toArray.getD i false).t) f'.d = some (.ifb (l.toArray.getD f'.i false) f'.x) := by
        simp only [yj, beqF.2 hdne, cond_false];exact zjx (g := fun f => .ifb (l.toArray.getD f.i false) f.x) hnd hf'
       have h10 := h6.tmps f'.d _ h9;show RV g'.I g'.ρ (.ifb ((l.set f.i true).toArray.getD f'.i false) f'.x) _;rw [hset, if_neg (fun e2 => e e2.symm)];exact h10
     ·have hdne : f.d ≠ t := h7 f hf;refine h6.tmps t x ?_;show lk ((f.d, f.x) :: (SP (bs j) fl fun i => l.toArray.getD i false).t) t = some x;simp only [yj, beqF.2 hdne, cond_false];show lk (fl.map (fun f => (f.d, .ifb (l.toArray.getD f.i false) f.x)) ++ rmK (fl.map (·.d)) (bs j).t) t = some x;rw [zjy (g := fun f => .ifb (l.toArray.getD f.i false) f.x) h7]; exact h8
  ·obtain ⟨c, hcm, rfl⟩ := List.mem_map.1 hm;obtain ⟨q, hcq⟩ := List.mem_iff_getElem?.1 hcm
   have hqj : q = j := by
    have h1 : ¬ q < j := fun h => by have := (hq q c hcq).2 h; rw [hil] at this; cases this
    cases q with
    | zero => omega
    | succ q =>
     obtain ⟨c0, hc0⟩ : ∃ c0, core[q]? = some c0 := ⟨_, List.getElem?_eq_getElem (by have := (List.getElem?_eq_some_iff.1 hcq).1; omega)⟩;have h2 := zeN hcc hc0 hcq;have h3 := yY hcl r3 (List.all_eq_true.1 hca c hcm) c0.1 h2;have := (hq q c0 hc0).1 h3;omega
   subst hqj;have hqlt := (List.getElem?_eq_some_iff.1 hcq).1;obtain ⟨o, ho, hg, hst⟩ := hM q c hcq (fun i => l.toArray.getD i false) (yY hcl r3 (List.all_eq_true.1 hca c hcm));obtain ⟨dst, op, ty, pos, af, gd⟩ := o;simp only at hg hst; subst hg;simp only [wpOpIn, ho];have hw : Region.wanted { dst := dst, op := op, type := ty, pos := pos, after := af, guard := none } (yielded ops a.tmps) = true := rfl;rw [if_pos hw];refine zK (hst g a w pos af none hr _ fun a' w' g' h' => ?_);rw [es];refine ih (l.set c.1 true) (q + 1) g' a' w' (by simpa using hl) hcl2 hn2 (by omega) (fun q' c' hc' => ?_) ?_
   ·rw [hset];by_cases e : c.1 = c'.1
    ·rw [if_pos e]
     have hqq : q' = q := by
      have h1 : (core.map (·.1))[q']? = some c'.1 := by rw [List.getElem?_map, hc']; rfl
      have h2 : (core.map (·.1))[q]? = some c'.1 := by rw [List.getElem?_map, hcq]; simp [e]
      exact (List.getElem?_inj (by simpa using (List.getElem?_eq_some_iff.1 hc').1) hnc).1 (h1.trans h2.symm)
     subst hqq;exact ⟨fun _ => by omega, fun _ => rfl⟩
    ·rw [if_neg e];rw [hq q' c' hc'];have hqq : q' ≠ q := fun e2 => by subst e2; rw [hcq] at hc'; injection hc' with hc'; subst hc'; exact e rfl
     omega
   ·rw [zcO (β' := fun i => l.toArray.getD i false) fun f hf => by rw [hset, if_neg (fun e => hdj f hf c hcm e.symm)]];exact h'
theorem zbb {b : St} {fl : List Fl} (h : Imp C st b) : Imp C st (SP b fl fun _ => false) := fun g a w hr => by
 obtain ⟨g', h1⟩ := h g a w hr;refine ⟨g', h1.slots rfl fun t x hx => ?_⟩;have hx : lk (fl.map (fun f => (f.d, .ifb false f.x)) ++ rmK (fl.map (·.d)) b.t) t = some x := hx;rcases zhE (g := fun f => .ifb false f.x) hx with ⟨f, hf, rfl, rfl⟩ | ⟨_, h2⟩
 ·exact .ifb _ _ _ fun h => by cases h
 ·exact h1.tmps t x (zhr h2).2
theorem zkm {b : Bool} {x : AV} (h : b = true) : LeV (.ifb b x) x := by subst h; exact LeV.ifb (LeV.refl x)
theorem ziw (b : Bool) (x : AV) : LeV x (.ifb b x) := fun I ρ v h => .ifb _ _ _ fun _ => h
theorem Imp.im {C : Ctx} {st : St} {ts : List (Nat × AV)} {hs : List (Nat × Blk)} (h1 : impT st ts := by (repeat' (first | exact True.intro | (refine And.intro ⟨_, rfl, ?_⟩ ?_; (first | exact LeV.refl _ | exact LeV.any _ | exact LeB.refl _ | (refine LeV.eq ?_; simp; done) | (refine LeV.eq ?_; congr 1; omega) | (refine LeV.eq ?_; dsimp only; congr 1; omega) | (refine LeV.eq (congrArg (AV.int _) ?_); omega) | exact LeV.nils _ | exact LeB.row (by assumption) | (refine LeB.eq ?_; congr 1; omega) | (refine LeB.eq ?_; congr 1; simp only [cond_true, cond_false]; omega)))))) (h2 : impH st hs := by (repeat' (first | exact True.intro | (refine And.intro ⟨_, rfl, ?_⟩ ?_; (first | exact LeV.refl _ | exact LeV.any _ | exact LeB.refl _ | (refine LeV.eq ?_; simp; done) | (refine LeV.eq ?_; congr 1; omega) | (refine LeV.eq ?_; dsimp only; congr 1; omega) | (refine LeV.eq (congrArg (AV.int _) ?_); omega) | exact LeV.nils _ | exact LeB.row (by assumption) | (refine LeB.eq ?_; congr 1; omega) | (refine LeB.eq ?_; congr 1; simp only [cond_true, cond_false]; omega)))))) : Imp C st ⟨ts, hs⟩ := Imp.of h1 h2
theorem yy {C : Ctx} {st : St} {ts : List (Nat × AV)} {hs : List (Nat × Blk)} (h1 : impT st ts := by (repeat' (first | exact True.intro | (refine And.intro ⟨_, rfl, ?_⟩ ?_; (first | exact LeV.refl _ | exact zkm (hβ _ (by simp)) | exact ziw _ _ | exact LeV.any _ | exact LeB.refl _ | (refine LeV.eq ?_; simp; done) | (refine LeV.eq ?_; congr 1; omega) | (refine LeV.eq ?_; dsimp only; congr 1; omega) | (refine LeV.eq (congrArg (AV.int _) ?_); omega) | exact LeV.nils _ | exact LeB.row (by assumption) | (refine LeB.eq ?_; congr 1; omega) | (refine LeB.eq ?_; congr 1; simp only [cond_true, cond_false]; omega)))))) (h2 : impH st hs := by (repeat' (first | exact True.intro | (refine And.intro ⟨_, rfl, ?_⟩ ?_; (first | exact LeV.refl _ | exact zkm (hβ _ (by simp)) | exact ziw _ _ | exact LeV.any _ | exact LeB.refl _ | (refine LeV.eq ?_; simp; done) | (refine LeV.eq ?_; congr 1; omega) | (refine LeV.eq ?_; dsimp only; congr 1; omega) | (refine LeV.eq (congrArg (AV.int _) ?_); omega) | exact LeV.nils _ | exact LeB.row (by assumption) | (refine LeB.eq ?_; congr 1; omega) | (refine LeB.eq ?_; congr 1; simp only [cond_true, cond_false]; omega)))))) : Imp C st ⟨ts, hs⟩ := Imp.of h1 h2
theorem yD {dst : Option Tmp} {op : Op} {ty : TypeId} {st0 : St} (hi : Imp C st st0) (hs : yw P C op ty dst st0 st') : yw P C op ty dst st st' := fun g a w pos af gd hr K hK =>
 let ⟨g2, h2⟩ := hi g a w hr; hs g2 a w pos af gd h2 K hK
def zti (ds : List (List Bool)) (N : Nat) : Bool := (List.range ds.length).all fun p => match ds[p]? with
 | some d => !(d.all id) || p == N
 | none => true
theorem zoM {rid : Nat} {l : List Oper} {Q : Exit -> St -> Prop} (sts : List St) (ds : List (List Bool)) (es : List (Nat × Nat × Nat)) (N : Nat) (hm : P.follows .mixedOrders = true) {s0 sN : St} (h0 : ds[0]? = some (List.replicate l.length false)) (hs0 : sts[0]? = some s0) (hi : Imp C st s0) (hc : zoL l.toArray ds es = true) (hlen : ds.length = sts.length)
 (hN : zti ds N = true) (hsN : sts[N]? = some sN) (hs : HAll P C l.toArray sts es) (hend : Q .normal sN) : X P C (.region rid l.toArray true) st Q :=
 X.drawN sts ds es hm h0 hs0 hi hc hlen hs fun p d s hp hd hs1 => by
  have h1 := List.all_eq_true.1 hN p (by simpa using (List.getElem?_eq_some_iff.1 hp).1);rw [hp] at h1;simp only [hd, Bool.not_true, Bool.false_or, beq_iff_eq] at h1;subst h1;rw [hsN] at hs1; injection hs1 with hs1; subst hs1; exact hend
theorem X.drawP {rid : Nat} {l : List Oper} {Q : Exit -> St -> Prop} (fl : List Fl) (core : List (Nat × List Nat)) (bs : Nat -> St) (hm : P.follows .mixedOrders = true) (hp : zfL l.toArray fl core = true) (hi : Imp C st (SP (bs 0) fl fun _ => false))
 (hF : ∀ j, j <= core.length -> zmj P C l.toArray core fl (bs j) j fl) (hM : ∀ j c, core[j]? = some c -> ∀ β : Nat -> Bool, (∀ a ∈ c.2, β a = true) -> zhD P C l.toArray c.1 (SP (bs j) fl β) (SP (bs (j + 1)) fl β)) (hend : Q .normal (SP (bs core.length) fl fun _ => true)) : X P C (.region rid l.toArray true) st Q := fun g a w hr => by
 refine wpIn_region_any hm ?_;obtain ⟨g1, hr1⟩ := hi g a w hr;have hr' : Rel C (SP (bs 0) fl fun _ => false) g1 a w.drew := hr1.add (nk := none) (d := none) (x := .any) (v := .nilIface) ⟨Im.le_refl _, fun _ _ => rfl, fun _ _ => rfl, Grow.drew w⟩ (fun k h => by simp at h) (fun t h => by simp at h) (.any _) hr1.sat.im hr1.sat.ob
 have hz : ∀ k, (List.replicate l.length false).toArray.getD k false = false := fun k => by
  simp only [Array.getD_eq_getD_getElem?, List.getElem?_toArray, List.getElem?_replicate];split <;> rfl
 have h := Rse.drawP hp hF hM hend (zz (List.replicate l.length false)) (List.replicate l.length false) 0 g1 a w.drew (by simp) (fun i _ hi => by rw [hz] at hi; cases hi) rfl (Nat.zero_le _) (fun q c _ => by rw [hz]; exact ⟨fun h => (by cases h), fun h => (by omega)⟩) (by
  rw [zcO (β' := fun _ => false) fun f _ => hz f.i]; exact hr')
 have e1 : zz (List.replicate l.length false) = l.toArray.size := by simp [zz]
 have e2 : (List.replicate l.length false).toArray = Array.replicate l.toArray.size false := by simp
 rw [e1, e2] at h;exact h
end
end Go.Rse
namespace Go.Rse
open Go Go.RowKit
section
variable {P : Program} {C : Ctx} {st : St} {ty : TypeId}
theorem zh5 {α : Type} {enc : α -> List AV} {l : List α} {t E : TypeId} {ag : Bool} {s n : Nat} {parts : Array (Nat × Operand)} {ps : List (Nat × AV)} {z : Value} (ht : slOk P t E = true) (hE : tyOk P E ag s = true) (hz : (P.info? E).bind (·.zero) = some z)
 (hs0 : 0 < s) (hp : za9 st parts.toList = some ps) (hk : zbH ps = true) (hf : zes (fun i => some (i * s, s)) (List.replicate (n * s) .any) ps = some (l.flatMap enc)) (hln : l.length = n) (hn : n * s <= 16777216) (hm : n <= 1000000)
 (hs : ∀ x, (enc x).length = s) (hnm : AV.nm.nmL (l.flatMap enc) = true) : yr P C (.buildSlice t n parts) ty st (.sl enc l) none :=
 zG fun g a w dst pos af gd hr => by
  have hcap : n <= maxLen := by simp only [maxLen]; omega
  have main : ∀ zc : Array Value, ∃ vs', Instr.fill (fun i => some (i * s, s)) ((Array.range (n * s)).map (zc[· % zc.size]!)) (parts.map fun (i, x) => (i, a.eval x)).toList = some vs' /\ RVL g.I g.ρ (l.flatMap enc) vs'.toList := fun zc => by
   have := zfq (I := g.I) (ρ := g.ρ) (fun i => some (i * s, s)) ps (parts.toList.map fun (i, x) => (i, a.eval x)) (List.replicate (n * s) .any) (l.flatMap enc) ((Array.range (n * s)).map (zc[· % zc.size]!)) (zb5 hr hp) hk
    ⟨by simp, fun j c v hc hv => by
     rw [List.getElem?_replicate] at hc;split at hc
     ·injection hc with hc; subst hc; exact .any v
     ·simp at hc⟩ hf
   simpa using this
  have hsl : ∀ (i : Nat) x, l[i]? = some x -> (enc x).length = s := fun i x _ => hs x
  let gF : Array Value -> Gh := fun vs' => ⟨g.ρ, fun b o => if b = w.heap.size then vs'[o]? else g.I b o, g.O⟩
  have fin : ∀ vs' : Array Value, RVL g.I g.ρ (l.flatMap enc) vs'.toList →
   Add none g w (gF vs') (w.alloc (.cells vs' E)) /\ RV (gF vs').I (gF vs').ρ (.sl enc l) (.slice (some ⟨w.heap.size, 0, none⟩) n n) /\ ImOB (gF vs') (w.alloc (.cells vs' E)) := fun vs' hv => by
   have hle : Im.le g.I (gF vs').I := fun b o u hI => by
    have := zbm (hr.sat.im b o u hI).1;simp only [gF]; rw [if_neg (by omega)]; exact hI
   have hlen : vs'.toList.length = n * s := by rw [hv.1, zy l hsl, hln]
   have hrow := zaP hsl (I := g.I) (xs := vs'.toList) ⟨hv.1, fun j c v hc hvv => (hv.2 j c v hc hvv).forget (zo hnm hc)⟩;refine ⟨⟨hle, fun _ _ => rfl, fun _ _ => rfl, Grow.alloc _ _⟩, ?_, fun b o u hI => ?_, fun b k hO => ?_, Im.le_trans hr.sat.ob.2 hle⟩
   ·have hget : ∀ (i : Nat) (x : α) (j : Nat), l[i]? = some x -> j < s -> i * s + j < vs'.size := fun i x j hx hj => by
     have h1 : i < n := by rw [← hln]; exact (List.getElem?_eq_some_iff.1 hx).1
     have h2 : (i + 1) * s <= n * s := Nat.mul_le_mul_right s h1;have h3 : vs'.size = n * s := by simpa using hlen
     rw [Nat.add_mul] at h2; omega
    have key := RV.sl (I := (gF vs').I) (ρ := (gF vs').ρ) enc l (some ⟨w.heap.size, 0, none⟩) w.heap.size 0 s n (fun i j => (vs'[i * s + j]?).getD .nilIface) (fun _ => rfl) (by omega) hcap hsl
     (fun i x j hx hj => by
      have := hget i x j hx hj;simp only [gF, if_true, Nat.zero_add];simp [this])
     (fun i x j c hx hc => by
      have hj : j < s := by rw [← hs x]; exact (List.getElem?_eq_some_iff.1 hc).1
      have h1 := hget i x j hx hj;have h2 : vs'.toList[i * s + j]? = some vs'[i * s + j] := by simp [h1]
      have h3 := (hrow i x j c _ hx hc h2).mono hle;simpa [h1] using h3)
    rw [hln] at key;exact key
   ·simp only [gF] at hI;by_cases e : b = w.heap.size
    ·subst e;rw [if_pos rfl] at hI;refine ⟨?_, ?_⟩
     ·have h1 := heap_alloc_new w (.cells vs' E);simp only [World.cell?, h1];simpa using hI
     ·show g.O w.heap.size = none;cases hO : g.O w.heap.size with
      | none => rfl
      | some k => have := hr.sat.ob.1 _ _ hO; omega
    ·rw [if_neg e] at hI;obtain ⟨h1, h2⟩ := hr.sat.im b o u hI;exact ⟨(Grow.alloc w (.cells vs' E)).cell h1, h2⟩
   ·have := hr.sat.ob.1 b k hO;show b < (w.heap.push _).size;simp; omega
  cases hi : P.info? E with
  | none => simp [hi] at hz
  | some i =>
   simp [hi] at hz;have hsz : i.size = s := by simp [tyOk, hi] at hE; exact hE.1
   by_cases h0 : n * s = 0
   ·obtain ⟨vs', h1, h2⟩ := main #[];obtain ⟨f1, f2, f3⟩ := fin vs' h2;refine ⟨_, _, _, ?_, f1, f2, f3, fun k' B hB => by cases hB⟩;simp only [execOp, Instr.buildSlice, Sem.run_bind, run_underlying (y7 ht), Result.andThen_ok, yX hE, h0, if_true, Sem.run_pure];rw [h0] at h1;rw [if_neg (by omega)];simp only [Sem.run_pure, Result.andThen_ok, h1, newRow, Sem.run_bind, run_newObj];rfl
   ·obtain ⟨vs', h1, h2⟩ := main z.cells;obtain ⟨f1, f2, f3⟩ := fin vs' h2;refine ⟨_, _, _, ?_, f1, f2, f3, fun k' B hB => by cases hB⟩;simp only [execOp, Instr.buildSlice, Sem.run_bind, run_underlying (y7 ht), Result.andThen_ok, yX hE, h0, if_false, Sem.run_pure];rw [if_neg (by omega)];simp only [Sem.run_pure, Sem.run_bind, zeroValue, typeInfo, run_program, hi, hz, Result.andThen_ok, h1, newRow, run_newObj];rfl
end
end Go.Rse
namespace Go.Rse
open Go Go.RowKit
section
variable {P : Program} {C : Ctx} {st : St} {ty : TypeId}
theorem zeO {ops : Array Oper} {Q : Exit -> St -> Prop} {rest : List Oper} {dst : Option Tmp} {op : Op} {pos : String} {af : Array Edge} {i t : Nat} {want b : Bool}
 (hi : (ops[i]?).bind (·.dst) = some t) (hb : lk st.t t = some (.bool b)) (hw : (b == want) = true)
 (h : Ex P C ops ({ dst := dst, op := op, type := ty, pos := pos, after := af, guard := none } :: rest) st Q) : Ex P C ops ({ dst := dst, op := op, type := ty, pos := pos, after := af, guard := some (i, want) } :: rest) st Q := fun g a w hr => by
 have hy : yielded ops a.tmps i = some b := by
  have := zg (hr.tmps t _ hb)
  have e : a.tmps[t]? = some (.bool b) := by
   simp only [Array.getD_eq_getD_getElem?] at this;cases h : a.tmps[t]? with
   | none => rw [h] at this; simp [undef] at this
   | some u => rw [h] at this; simpa using this
  simp [yielded, hi, e]
 have hwant : Region.wanted { dst := dst, op := op, type := ty, pos := pos, after := af, guard := some (i, want) } (yielded ops a.tmps) = true := by
  simp only [Region.wanted, hy]; exact hw
 have hwant2 : Region.wanted { dst := dst, op := op, type := ty, pos := pos, after := af, guard := none } (yielded ops a.tmps) = true := rfl;have h1 := h g a w hr;unfold wpListIn at h1 ⊢;rw [if_pos hwant2] at h1;rw [if_pos hwant];exact h1
end
end Go.Rse
namespace Go.Rse
open Go Go.RowKit
section
variable {P : Program} {C : Ctx} {st : St} {ty : TypeId}
def zrH (P : Program) (C : Ctx) (ops : Array Oper) (core : List (Nat × List Nat)) (fl : List Fl) (b : St) (f : Fl) (j : Nat) : Prop := zrG core f j = true \/ ∃ o, ops[f.i]? = some o /\ o.guard = none /\ o.dst = some f.d /\ f.d.blt C.n = true /\ yr P C o.op o.type (RP b fl f.as) f.x none
def zfM (P : Program) (C : Ctx) (ops : Array Oper) (core : List (Nat × List Nat)) (fl : List Fl) (b : St) (j : Nat) : List Fl -> Prop
 | [] => True
 | f :: r => zrH P C ops core fl b f j /\ zfM P C ops core fl b j r
theorem zfM.get {ops : Array Oper} {core : List (Nat × List Nat)} {fl : List Fl} {b : St} {j : Nat} : ∀ {l : List Fl}, zfM P C ops core fl b j l -> ∀ f ∈ l, zrH P C ops core fl b f j
 | g :: r, h, f, hf => by
  rcases List.mem_cons.1 hf with rfl | hf
  ·exact h.1
  ·exact h.2.get f hf
theorem drawQ {ops : Array Oper} {Q : Exit -> St -> Prop} {fl : List Fl} {core : List (Nat × List Nat)} {bs : Nat -> St} (hp : zfL ops fl core = true) (hF : ∀ j, j <= core.length -> zfM P C ops core fl (bs j) j fl)
 (hM : ∀ j c, core[j]? = some c -> ∀ β : Nat -> Bool, (∀ a ∈ c.2, β a = true) -> zhD P C ops c.1 (SP (bs j) fl β) (SP (bs (j + 1)) fl β)) (hend : Q .normal (SP (bs core.length) fl fun _ => true)) :
 ∀ (n : Nat) (l : List Bool) (j : Nat) (g : Gh) (a : Act) (w : World), l.length = ops.size -> zct ops l.toArray -> zz l = n -> j <= core.length -> (∀ q c, core[q]? = some c -> (l.toArray.getD c.1 false = true ↔ q < j)) -> Rel C (SP (bs j) fl fun i => l.toArray.getD i false) g a w →
 wpAnyIn C.F 0 P .any ops (lift C Q) n l.toArray a w := by
 simp only [zfL, Bool.and_eq_true, decide_eq_true_eq] at hp;obtain ⟨⟨⟨⟨⟨⟨he, hnd⟩, hni⟩, hall⟩, hfa⟩, hca⟩, hcc⟩ := hp
 have hdir : ∀ i, i < ops.size -> ∀ j ∈ dir ops i, j < i := fun i hi j hj => by
  have := List.all_eq_true.1 (List.all_eq_true.1 he i (by simpa using hi)) j hj;simpa using this
 have hnf : (fl.map (·.i)).Nodup := (List.nodup_append.1 hni).1;have hnc : (core.map (·.1)).Nodup := (List.nodup_append.1 hni).2.1;have hdj : ∀ f ∈ fl, ∀ c ∈ core, f.i ≠ c.1 := fun f hf c hc => (List.nodup_append.1 hni).2.2 _ (List.mem_map.2 ⟨f, hf, rfl⟩) _ (List.mem_map.2 ⟨c, hc, rfl⟩)
 have hget : ∀ (l : List Bool) (i : Nat), i < l.length -> (l.toArray.getD i false = true ↔ l[i]? = some true) := fun l i h => by
  simp [Array.getD_eq_getD_getElem?, h]
 intro n
 induction n with
 | zero =>
  intro l j g a w hl hcl hn hj hq hr;have hal := zcl hn
  have htrue : ∀ i, i < l.length -> l.toArray.getD i false = true := fun i hi => by
   have := List.all_eq_true.1 hal _ (List.getElem_mem hi);simp [Array.getD_eq_getD_getElem?, hi]; simpa using this
  refine ⟨List.eq_nil_iff_forall_not_mem.2 fun i hi => ?_, ?_⟩
  ·obtain ⟨h1, h2, _⟩ := zi.1 hi;rw [zai (by simpa [hl] using h1), htrue i (by omega)] at h2;cases h2
  ·have hidx : ∀ i, i ∈ fl.map (·.i) ++ core.map (·.1) -> l.toArray.getD i false = true \/ ops.size <= i := fun i _ => by
    rcases Nat.lt_or_ge i ops.size with h | h
    ·exact .inl (htrue i (by omega))
    ·exact .inr h
   have hj2 : j = core.length := by
    rcases Nat.lt_or_ge j core.length with h | h
    ·exfalso;obtain ⟨c, hc⟩ : ∃ c, core[j]? = some c := ⟨_, List.getElem?_eq_getElem h⟩;have h1 : ¬ l.toArray.getD c.1 false = true := fun e => by have := (hq j c hc).1 e; omega
     rcases hidx c.1 (List.mem_append_right _ (List.mem_map.2 ⟨c, List.mem_of_getElem? hc, rfl⟩)) with h2 | h2
     ·exact h1 h2
     ·obtain ⟨o, ho, _⟩ := hM j c hc (fun _ => true) (fun _ _ => rfl);have := (Array.getElem?_eq_some_iff.1 ho).1;omega
    ·omega
   subst hj2;refine ⟨_, g, hr, ?_⟩
   have hcg : SP (bs core.length) fl (fun i => l.toArray.getD i false) = SP (bs core.length) fl fun _ => true := zcO fun f hf => by
    rcases hidx f.i (List.mem_append_left _ (List.mem_map.2 ⟨f, hf, rfl⟩)) with h2 | h2
    ·exact h2
    ·rcases (hF core.length (Nat.le_refl _)).get f hf with h3 | ⟨o, ho, _⟩
     ·exfalso;obtain ⟨q, _, h4⟩ := List.any_eq_true.1 h3;cases hc : core[q]? with
      | none => simp [hc] at h4
      | some c =>
       simp only [hc, Bool.or_eq_true, Bool.and_eq_true] at h4;have hqlt := (List.getElem?_eq_some_iff.1 hc).1;rcases h4 with ⟨_, h5⟩ | ⟨_, h5⟩
       ·have : core.length <= q := by simpa using h5
        omega
       ·have hcl2 := (hq q c hc).2 hqlt;obtain ⟨o, ho, _⟩ := hM q c hc (fun _ => true) (fun _ _ => rfl);have hcs := (Array.getElem?_eq_some_iff.1 ho).1;have h6 := yY hcl (hcl c.1 hcs hcl2) (List.all_eq_true.1 hca c (List.mem_of_getElem? hc)) f.i (yU.1 h5)
        have : f.i < l.length := by
         rcases Nat.lt_or_ge f.i l.length with h | h
         ·exact h
         ·simp [Array.getD_eq_getD_getElem?, List.getElem?_eq_none h] at h6
        omega
     ·have := (Array.getElem?_eq_some_iff.1 ho).1;omega
   rw [hcg]; exact hend
 | succ n ih =>
  intro l j g a w hl hcl hn hj hq hr
  have hex : ∃ i : Nat, l[i]? = some false /\ ∀ k : Nat, k < i -> l[k]? ≠ some false := by
   refine zdO (m := l.length) ?_;refine Classical.byContradiction fun hno => ?_
   have : zz l = 0 := by
    unfold zz;rw [List.filter_eq_nil_iff.2 (fun b hb => ?_)]; rfl;obtain ⟨i, hi⟩ := List.mem_iff_getElem?.1 hb;cases b
    ·exact absurd ⟨i, (List.getElem?_eq_some_iff.1 hi).1, hi⟩ hno
    ·simp
   omega
  have hne : Region.ready .any ops l.toArray ≠ [] := fun e => by
   obtain ⟨i, hi, hmin⟩ := hex;have hlt := (List.getElem?_eq_some_iff.1 hi).1
   have : i ∈ Region.ready .any ops l.toArray := zi.2 ⟨by omega, by simp [Array.getD_eq_getD_getElem?, hi], fun k hk => by
    have hki := hdir i (by omega) k hk;rw [hget l k (by omega)];have h1 := hmin k hki;have h2 : l[k]? = some l[k] := List.getElem?_eq_getElem (by omega);cases hb : l[k]
    ·rw [hb] at h2; exact absurd h2 h1
    ·rw [hb] at h2; exact h2⟩
   rw [e] at this; simp at this
  refine ⟨fun e => absurd e hne, fun i hi => ?_⟩;obtain ⟨r1, r2, r3⟩ := zi.1 hi;have hlt : i < l.length := by omega
  have hif : l[i]? = some false := by
   simp [Array.getD_eq_getD_getElem?, hlt] at r2;rw [List.getElem?_eq_getElem hlt, r2]
  have hil : l.toArray.getD i false = false := by simp [Array.getD_eq_getD_getElem?, hif]
  have es : l.toArray.setIfInBounds i true = (l.set i true).toArray := by simp
  have hset : ∀ k, (l.set i true).toArray.getD k false = if i = k then true else l.toArray.getD k false := fun k => by
   rw [← es]; exact zj (by simpa using hlt)
  have hcl2 : zct ops (l.set i true).toArray := fun k hk hkl m hm => by
   rw [hset] at hkl ⊢;by_cases e : i = m
   ·rw [if_pos e]
   ·rw [if_neg e];by_cases e2 : i = k
    ·subst e2; exact r3 m hm
    ·rw [if_neg e2] at hkl; exact hcl k hk hkl m hm
  have hn2 : zz (l.set i true) = n := by have := zc7 hif; omega
  have hmem : i ∈ fl.map (·.i) \/ i ∈ core.map (·.1) := by
   have := List.all_eq_true.1 hall i (by simpa using r1);simp only [Bool.or_eq_true] at this;rcases this with h | h
   ·exact .inl (yU.1 h)
   ·exact .inr (yU.1 h)
  rcases hmem with hm | hm
  ·obtain ⟨f, hf, rfl⟩ := List.mem_map.1 hm;rcases (hF j hj).get f hf with h3 | ⟨o, ho, hg, hd, hdn, hpur⟩
   ·exfalso;obtain ⟨q, _, h4⟩ := List.any_eq_true.1 h3;cases hc : core[q]? with
    | none => simp [hc] at h4
    | some c =>
     simp only [hc, Bool.or_eq_true, Bool.and_eq_true] at h4;rcases h4 with ⟨h5, h6⟩ | ⟨h5, h6⟩
     ·have h7 := yY hcl r3 (List.all_eq_true.1 hfa f hf) c.1 (yU.1 h5);have := (hq q c hc).1 h7;have : j <= q := by simpa using h6
      omega
     ·have hqj : q < j := by simpa using h5
      have h7 := (hq q c hc).2 hqj;obtain ⟨o, ho, _⟩ := hM q c hc (fun _ => true) (fun _ _ => rfl);have h8 := yY hcl (hcl c.1 (Array.getElem?_eq_some_iff.1 ho).1 h7) (List.all_eq_true.1 hca c (List.mem_of_getElem? hc)) f.i (yU.1 h6);rw [hil] at h8; cases h8
   ·have hrR := zrF (as := f.as) hnd (fun f' hf' hin => yY hcl r3 (List.all_eq_true.1 hfa f hf) f'.i hin) hr;obtain ⟨dst, op, ty, pos, af, gd⟩ := o;simp only at hg hd hpur; subst hg; subst hd;simp only [wpOpIn, ho];have hw : Region.wanted { dst := some f.d, op := op, type := ty, pos := pos, after := af, guard := none } (yielded ops a.tmps) = true := rfl;rw [if_pos hw];refine zK (hpur g a w (some f.d) pos af none hrR _ fun v w' g' h2 h3 h4 h5 => ?_);rw [es];refine ih (l.set f.i true) j g' _ w' (by simpa using hl) hcl2 hn2 hj (fun q c hc => ?_) ?_
    ·rw [hset, if_neg (hdj f hf c (List.mem_of_getElem? hc))]; exact hq q c hc
    ·have h6 := hr.addSt (d := some f.d) (nb := none) h2 hdn rfl h3 h4.1 h4.2 (fun _ _ h => by cases h);refine h6.slots rfl fun t x hx => ?_
     have hx : lk (fl.map (fun f' => (f'.d, .ifb ((l.set f.i true).toArray.getD f'.i false) f'.x)) ++ rmK (fl.map (·.d)) (bs j).t) t = some x := hx;rcases zhE (g := fun f' => .ifb ((l.set f.i true).toArray.getD f'.i false) f'.x) hx with ⟨f', hf', rfl, rfl⟩ | ⟨h7, h8⟩
     ·by_cases e : f'.i = f.i
      ·have : f' = f := zcN hnf hf' hf e;subst this;have h9 : lk ((f'.d, f'.x) :: (SP (bs j) fl fun i => l.toArray.getD i false).t) f'.d = some f'.x := by simp [yj]
       exact .ifb _ _ _ fun _ => h6.tmps f'.d f'.x h9
      ·have hdne : f.d ≠ f'.d := fun e2 => e (congrArg Fl.i (zcN hnd hf' hf e2.symm))
       have h9 : lk ((f.d, f.x) :: (SP (bs j) fl fun i => l.toArray.getD i false).t) f'.d = some (.ifb (l.toArray.getD f'.i false) f'.x) := by
        simp only [yj, beqF.2 hdne, cond_false];exact zjx (g := fun f => .ifb (l.toArray.getD f.i false) f.x) hnd hf'
       have h10 := h6.tmps f'.d _ h9;show RV g'.I g'.ρ (.ifb ((l.set f.i true).toArray.getD f'.i false) f'.x) _;rw [hset, if_neg (fun e2 => e e2.symm)];exact h10
     ·have hdne : f.d ≠ t := h7 f hf;refine h6.tmps t x ?_;show lk ((f.d, f.x) :: (SP (bs j) fl fun i => l.toArray.getD i false).t) t = some x;simp only [yj, beqF.2 hdne, cond_false];show lk (fl.map (fun f => (f.d, .ifb (l.toArray.getD f.i false) f.x)) ++ rmK (fl.map (·.d)) (bs j).t) t = some x;rw [zjy (g := fun f => .ifb (l.toArray.getD f.i false) f.x) h7]; exact h8
  ·obtain ⟨c, hcm, rfl⟩ := List.mem_map.1 hm;obtain ⟨q, hcq⟩ := List.mem_iff_getElem?.1 hcm
   have hqj : q = j := by
    have h1 : ¬ q < j := fun h => by have := (hq q c hcq).2 h; rw [hil] at this; cases this
    cases q with
    | zero => omega
    | succ q =>
     obtain ⟨c0, hc0⟩ : ∃ c0, core[q]? = some c0 := ⟨_, List.getElem?_eq_getElem (by have := (List.getElem?_eq_some_iff.1 hcq).1; omega)⟩;have h2 := zeN hcc hc0 hcq;have h3 := yY hcl r3 (List.all_eq_true.1 hca c hcm) c0.1 h2;have := (hq q c0 hc0).1 h3;omega
   subst hqj;have hqlt := (List.getElem?_eq_some_iff.1 hcq).1;obtain ⟨o, ho, hg, hst⟩ := hM q c hcq (fun i => l.toArray.getD i false) (yY hcl r3 (List.all_eq_true.1 hca c hcm));obtain ⟨dst, op, ty, pos, af, gd⟩ := o;simp only at hg hst; subst hg;simp only [wpOpIn, ho];have hw : Region.wanted { dst := dst, op := op, type := ty, pos := pos, after := af, guard := none } (yielded ops a.tmps) = true := rfl;rw [if_pos hw];refine zK (hst g a w pos af none hr _ fun a' w' g' h' => ?_);rw [es];refine ih (l.set c.1 true) (q + 1) g' a' w' (by simpa using hl) hcl2 hn2 (by omega) (fun q' c' hc' => ?_) ?_
   ·rw [hset];by_cases e : c.1 = c'.1
    ·rw [if_pos e]
     have hqq : q' = q := by
      have h1 : (core.map (·.1))[q']? = some c'.1 := by rw [List.getElem?_map, hc']; rfl
      have h2 : (core.map (·.1))[q]? = some c'.1 := by rw [List.getElem?_map, hcq]; simp [e]
      exact (List.getElem?_inj (by simpa using (List.getElem?_eq_some_iff.1 hc').1) hnc).1 (h1.trans h2.symm)
     subst hqq;exact ⟨fun _ => by omega, fun _ => rfl⟩
    ·rw [if_neg e];rw [hq q' c' hc'];have hqq : q' ≠ q := fun e2 => by subst e2; rw [hcq] at hc'; injection hc' with hc'; subst hc'; exact e rfl
     omega
   ·rw [zcO (β' := fun i => l.toArray.getD i false) fun f hf => by rw [hset, if_neg (fun e => hdj f hf c hcm e.symm)]];exact h'
theorem X.drawQ {rid : Nat} {l : List Oper} {Q : Exit -> St -> Prop} (fl : List Fl) (core : List (Nat × List Nat)) (bs : Nat -> St) (hm : P.follows .mixedOrders = true) (hp : zfL l.toArray fl core = true) (hi : Imp C st (SP (bs 0) fl fun _ => false))
 (hF : ∀ j, j <= core.length -> zfM P C l.toArray core fl (bs j) j fl) (hM : ∀ j c, core[j]? = some c -> ∀ β : Nat -> Bool, (∀ a ∈ c.2, β a = true) -> zhD P C l.toArray c.1 (SP (bs j) fl β) (SP (bs (j + 1)) fl β)) (hend : Q .normal (SP (bs core.length) fl fun _ => true)) : X P C (.region rid l.toArray true) st Q := fun g a w hr => by
 refine wpIn_region_any hm ?_;obtain ⟨g1, hr1⟩ := hi g a w hr;have hr' : Rel C (SP (bs 0) fl fun _ => false) g1 a w.drew := hr1.add (nk := none) (d := none) (x := .any) (v := .nilIface) ⟨Im.le_refl _, fun _ _ => rfl, fun _ _ => rfl, Grow.drew w⟩ (fun k h => by simp at h) (fun t h => by simp at h) (.any _) hr1.sat.im hr1.sat.ob
 have hz : ∀ k, (List.replicate l.length false).toArray.getD k false = false := fun k => by
  simp only [Array.getD_eq_getD_getElem?, List.getElem?_toArray, List.getElem?_replicate];split <;> rfl
 have h := Rse.drawQ hp hF hM hend (zz (List.replicate l.length false)) (List.replicate l.length false) 0 g1 a w.drew (by simp) (fun i _ hi => by rw [hz] at hi; cases hi) rfl (Nat.zero_le _) (fun q c _ => by rw [hz]; exact ⟨fun h => (by cases h), fun h => (by omega)⟩) (by
  rw [zcO (β' := fun _ => false) fun f _ => hz f.i]; exact hr')
 have e1 : zz (List.replicate l.length false) = l.toArray.size := by simp [zz]
 have e2 : (List.replicate l.length false).toArray = Array.replicate l.toArray.size false := by simp
 rw [e1, e2] at h;exact h
theorem zdP {α : Type} {enc : α -> List AV} {l : List α} {E t : TypeId} {x y : Operand} {s : Nat} {kk : IntKind} {i : Int} {ag : Bool} (hx : ev st x = some (.sl enc l)) (hy : ev st y = some (.int kk i)) (ht : slOk P t E = true) (hE : tyOk P E ag s = true) (he : ∀ x, (enc x).length = s)
 (h0 : 0 <= i) (h1 : i <= l.length) : Pur P C (.slice t x none (some y) none) ty st (.sl enc (l.take i.toNat)) := fun g a w dst pos af gd hr => by
 obtain ⟨A, b, o, s', c, vs, e, hA, hc, hm, hs, hI, hv⟩ := zb3 (yn hr hx);have ey := za (yn hr hy);have hl : (l.take i.toNat).length = i.toNat := by rw [List.length_take]; omega
 have hb : (Instr.sliceBounds true l.length c none (some (.int kk i)) none).run P w = .ok (0, i.toNat, c) w := by
  simp [Instr.sliceBounds, Instr.sliceBound, asIntOf, h0];omega
 refine ⟨.slice (if c = 0 then A else A.map (·.add (0 * s))) i.toNat c, ?_, ?_⟩
 ·simp [execOp, Instr.sliceAt, Instr.slice, run_underlying (y7 ht), e, ey, hb, yX hE]
 ·have hget : ∀ {j : Nat} {x : α}, (l.take i.toNat)[j]? = some x -> l[j]? = some x := fun {j x} h => by
   rw [List.getElem?_take] at h; split at h
   ·exact h
   ·simp at h
  have hA2 : l.take i.toNat ≠ [] -> (if c = 0 then A else A.map (·.add (0 * s))) = some ⟨b, o, none⟩ := fun hne => by
   have hl0 : l ≠ [] := fun e => hne (by rw [e]; simp)
   have := List.length_pos_iff.2 hl0;rw [if_neg (by omega), hA hl0];simp [zv]
  have := RV.sl (I := g.I) (ρ := g.ρ) enc (l.take i.toNat) (if c = 0 then A else A.map (·.add (0 * s))) b o s' c vs hA2 (by rw [hl]; omega) hm (fun j x h => hs j x (hget h)) (fun j x q h => hI j x q (hget h)) (fun j x q cell h => hv j x q cell (hget h));rw [hl] at this; exact this
theorem zaa {α : Type} {enc : α -> List AV} {l : List α} {E t : TypeId} {x y : Operand} {s : Nat} {kk : IntKind} {i : Int} {ag : Bool} (hx : ev st x = some (.sl enc l)) (hy : ev st y = some (.int kk i)) (ht : slOk P t E = true) (hE : tyOk P E ag s = true) (he : ∀ x, (enc x).length = s)
 (h0 : 0 <= i) (h1 : i <= l.length) : Pur P C (.slice t x (some y) none none) ty st (.sl enc (l.drop i.toNat)) := fun g a w dst pos af gd hr => by
 obtain ⟨A, b, o, s', c, vs, e, hA, hc, hm, hs, hI, hv⟩ := zb3 (yn hr hx);have ey := za (yn hr hy);have hl : (l.drop i.toNat).length = l.length - i.toNat := List.length_drop
 have hb : (Instr.sliceBounds true l.length c (some (.int kk i)) none none).run P w = .ok (i.toNat, l.length, c) w := by
  simp [Instr.sliceBounds, Instr.sliceBound, asIntOf, h0, h1]
 refine ⟨.slice (if c = i.toNat then A else A.map (·.add (i.toNat * s))) (l.length - i.toNat) (c - i.toNat), ?_, ?_⟩
 ·simp [execOp, Instr.sliceAt, Instr.slice, run_underlying (y7 ht), e, ey, hb, yX hE]
 ·have hget : ∀ {j : Nat} {x : α}, (l.drop i.toNat)[j]? = some x -> l[i.toNat + j]? = some x := fun {j x} h => by
   rwa [List.getElem?_drop] at h
  have hss : ∀ {j : Nat} {x : α}, (l.drop i.toNat)[j]? = some x -> s' = s := fun {j x} h => (hs _ _ (hget h)).symm.trans (he x)
  have hA2 : l.drop i.toNat ≠ [] -> (if c = i.toNat then A else A.map (·.add (i.toNat * s))) = some ⟨b, o + i.toNat * s, none⟩ := fun hne => by
   have hl0 : l ≠ [] := fun e => hne (by rw [e]; simp)
   have := List.length_pos_iff.2 hne;rw [if_neg (by omega), hA hl0];simp [zv]
  have := RV.sl (I := g.I) (ρ := g.ρ) enc (l.drop i.toNat) (if c = i.toNat then A else A.map (·.add (i.toNat * s))) b (o + i.toNat * s) s (c - i.toNat) (fun j q => vs (i.toNat + j) q) hA2 (by rw [hl]; omega) (by omega) (fun j x h => he x)
   (fun j x q h hq => by
    have hq' : q < s' := by rw [hss h]; exact hq
    have := hI _ _ q (hget h) hq';rw [hss h, Nat.add_mul, ← Nat.add_assoc o] at this;exact this) (fun j x q cell h => hv _ _ q cell (hget h))
  rw [hl] at this; exact this
end
end Go.Rse
namespace Go.Rse
open Go Go.RowKit
section
variable {P : Program} {C : Ctx} {st : St} {ty : TypeId}
theorem zcm {α : Type} {enc : α -> List AV} {l : List α} {E t : TypeId} {x y z : Operand} {s : Nat} {kk kj : IntKind} {i j : Int} {ag : Bool} (hx : ev st x = some (.sl enc l)) (hy : ev st y = some (.int kk i)) (hz : ev st z = some (.int kj j)) (ht : slOk P t E = true) (hE : tyOk P E ag s = true) (he : ∀ x, (enc x).length = s)
 (h0 : 0 <= i) (h1 : i <= j) (h2 : j <= l.length) : Pur P C (.slice t x (some y) (some z) none) ty st (.sl enc ((l.drop i.toNat).take (j.toNat - i.toNat))) := fun g a w dst pos af gd hr => by
 obtain ⟨A, b, o, s', c, vs, e, hA, hc, hm, hs, hI, hv⟩ := zb3 (yn hr hx);have ey := za (yn hr hy);have ez := za (yn hr hz);have hl : ((l.drop i.toNat).take (j.toNat - i.toNat)).length = j.toNat - i.toNat := by rw [List.length_take, List.length_drop]; omega
 have hjc : j <= (c : Int) := by omega
 have h0j : 0 <= j := by omega
 have hb : (Instr.sliceBounds true l.length c (some (.int kk i)) (some (.int kj j)) none).run P w = .ok (i.toNat, j.toNat, c) w := by
  have hij : i <= ((j.toNat : Nat) : Int) := by omega
  simp [Instr.sliceBounds, Instr.sliceBound, asIntOf, h0, h0j, hjc];omega
 refine ⟨.slice (if c = i.toNat then A else A.map (·.add (i.toNat * s))) (j.toNat - i.toNat) (c - i.toNat), ?_, ?_⟩
 ·simp [execOp, Instr.sliceAt, Instr.slice, run_underlying (y7 ht), e, ey, ez, hb, yX hE]
 ·have hget : ∀ {q : Nat} {x : α}, ((l.drop i.toNat).take (j.toNat - i.toNat))[q]? = some x -> l[i.toNat + q]? = some x := fun {q x} h => by
   rw [List.getElem?_take] at h;split at h
   ·rwa [List.getElem?_drop] at h
   ·simp at h
  have hss : ∀ {q : Nat} {x : α}, ((l.drop i.toNat).take (j.toNat - i.toNat))[q]? = some x -> s' = s := fun {q x} h => (hs _ _ (hget h)).symm.trans (he x)
  have hA2 : (l.drop i.toNat).take (j.toNat - i.toNat) ≠ [] -> (if c = i.toNat then A else A.map (·.add (i.toNat * s))) = some ⟨b, o + i.toNat * s, none⟩ := fun hne => by
   have hl0 : l ≠ [] := fun e => hne (by rw [e]; simp)
   have := List.length_pos_iff.2 hne;rw [if_neg (by omega), hA hl0];simp [zv]
  have := RV.sl (I := g.I) (ρ := g.ρ) enc ((l.drop i.toNat).take (j.toNat - i.toNat)) (if c = i.toNat then A else A.map (·.add (i.toNat * s))) b (o + i.toNat * s) s (c - i.toNat) (fun j q => vs (i.toNat + j) q) hA2 (by rw [hl]; omega) (by omega) (fun j x h => he x)
   (fun q x q2 h hq => by
    have hq' : q2 < s' := by rw [hss h]; exact hq
    have := hI _ _ q2 (hget h) hq';rw [hss h, Nat.add_mul, ← Nat.add_assoc o] at this;exact this) (fun q x q2 cell h => hv _ _ q2 cell (hget h))
  rw [hl] at this; exact this
theorem zmk {x y : Operand} {ts : Array TypeId} {k k' : IntKind} {i j : Int} (hx : ev st x = some (.int k i)) (hy : ev st y = some (.int k' j)) : Pur P C (.call { callee := .builtin .max, args := #[x, y], argTypes := ts }) ty st (.int k (max i j)) := fun g a w dst pos af gd hr => by
 have ex := za (yn hr hx);have ey := za (yn hr hy);refine ⟨.int k (if j > i then j else i), ?_, ?_⟩
 ·simp [execOp, resolve, invoke, builtin, Builtin.max_, Builtin.max2, ex, ey]
 ·have e : (if j > i then j else i) = max i j := by
   by_cases h : j > i
   ·rw [if_pos h]; omega
   ·rw [if_neg h]; omega
  rw [e]; exact .int _ _
end
end Go.Rse
namespace Go.Rse
open Go Go.RowKit
section
variable {P : Program} {C : Ctx} {st : St} {ty : TypeId} {Q : Exit -> St -> Prop}
abbrev ifV (t : TypeId) (k : IntKind) (n : Int) : Value := .iface t (.agg #[.int k n])
theorem zoN {I : Im} {ρ : Nat -> Value} {k : IntKind} {n : Int} {v : Value} (h : RV I ρ (.agg [.int k n]) v) : v = .agg #[.int k n] := by
 obtain ⟨vs, e, hl, hv⟩ := za6 h;subst e
 match vs, hl with
 | [u], _ =>
  have := za (hv 0 _ u rfl rfl);subst this; rfl
theorem zqh {I : Im} {ρ : Nat -> Value} (k : IntKind) (n : Int) : RV I ρ (.agg [.int k n]) (.agg #[.int k n]) :=
 RV.agg [.int k n] [.int k n] rfl fun j c v hc hv => by
  match j with
  | 0 => simp at hc hv; subst hc; subst hv; exact .int _ _
  | j + 1 => simp at hc
theorem zjz {t : TypeId} {x : Operand} {k : IntKind} {n : Int} (hx : ev st x = some (.agg [.int k n])) (hu : ∃ fs, P.underlying t = some (.struct fs)) : Pur P C (.makeInterface t x) ty st (.val (ifV t k n)) := fun g a w dst pos af gd hr => by
 have e := zoN (yn hr hx);obtain ⟨fs, hu⟩ := hu;exact ⟨_, by simp [execOp, e, Instr.makeInterface, run_underlying hu], .val _⟩
theorem zh6 {t T : TypeId} {v : Value} (hu : ∃ ms, P.underlying T = some (.interface ms)) (w : World) : (Op.equal T (.iface t v) .nilIface).run P w = .ok false w := by
 obtain ⟨ms, hu⟩ := hu;unfold Op.equal;rw [show Op.maxDepth = 9999 + 1 from rfl];unfold Op.equalIn;simp [run_underlying hu]
theorem zgk {T : TypeId} (hu : ∃ ms, P.underlying T = some (.interface ms)) (w : World) : (Op.equal T .nilIface .nilIface).run P w = .ok true w := by
 obtain ⟨ms, hu⟩ := hu;unfold Op.equal;rw [show Op.maxDepth = 9999 + 1 from rfl];unfold Op.equalIn;simp [run_underlying hu]
theorem zkn {t T : TypeId} {v : Value} {x : Operand} {yt : TypeId} (hu : ∃ ms, P.underlying T = some (.interface ms)) (hx : ev st x = some (.val (.iface t v))) : Pur P C (.binOp .neq T x (.const .nilIface) yt) ty st (.bool true) := fun g a w dst pos af gd hr => by
 have e := za5 (yn hr hx);have e0 : a.eval (.const .nilIface) = .nilIface := rfl;refine ⟨.bool true, ?_, .bool _⟩;have hg : (eqGuard .neq T x (.const .nilIface) (.iface t v) .nilIface).run P w = .ok () w := by unfold eqGuard; simp
 simp only [execOp, e, e0, Sem.run_bind, hg, Result.andThen_ok, binOp, zh6 hu, Sem.run_pure]; rfl
theorem zhG {T : TypeId} {x : Operand} {yt : TypeId} (hu : ∃ ms, P.underlying T = some (.interface ms)) (hx : ev st x = some (.val .nilIface)) : Pur P C (.binOp .neq T x (.const .nilIface) yt) ty st (.bool false) := fun g a w dst pos af gd hr => by
 have e := za5 (yn hr hx);have e0 : a.eval (.const .nilIface) = .nilIface := rfl;refine ⟨.bool false, ?_, .bool _⟩;have hg : (eqGuard .neq T x (.const .nilIface) .nilIface .nilIface).run P w = .ok () w := by unfold eqGuard; simp
 simp only [execOp, e, e0, Sem.run_bind, hg, Result.andThen_ok, binOp, zgk hu, Sem.run_pure]; rfl
theorem zh7 {t xT : TypeId} {x : Operand} {k : IntKind} {n : Int} (hx : ev st x = some (.val (ifV t k n))) (hu : ∃ fs, P.underlying t = some (.struct fs)) : Pur P C (.typeAssert x xT t true) ty st (.tup [.agg [.int k n], .bool true]) := fun g a w dst pos af gd hr => by
 have e := za5 (yn hr hx);obtain ⟨fs, hu⟩ := hu;refine ⟨.tuple #[.agg #[.int k n], .bool true], by simp [execOp, e, Instr.typeAssert, run_underlying hu], ?_⟩
 exact RV.tup [.agg [.int k n], .bool true] [.agg #[.int k n], .bool true] rfl fun j c v hc hv => by
  match j with
  | 0 => simp at hc hv; subst hc; subst hv; exact zqh _ _
  | 1 => simp at hc hv; subst hc; subst hv; exact .bool _
  | j + 2 => simp at hc
abbrev pnc (v : Value) : Exit := .panic [{ v := v, recovered := false }]
theorem Ex.panic {ops : Array Oper} {rest : List Oper} {dst : Option Tmp} {pos : String} {af : Array Edge} {x : Operand} {t : TypeId} {u : Value} (hq : Q (pnc (.iface t u)) st) (hx : ev st x = some (.val (.iface t u)) := by exact rfl) :
 Ex P C ops ({ dst := dst, op := .panic x, type := ty, pos := pos, after := af, guard := none } :: rest) st Q := fun g a w hr =>
 wpListIn_plain rfl fun K hK => ⟨fun f _ => C.F_fn f, by
  have e := za5 (yn hr hx);rw [Oper.semAt_eq _ _ _ (by simp)];have : (execOp a.eval { dst := dst, op := .panic x, type := ty, pos := pos, after := af, guard := none }).run P w = .halt (.panic (.iface t u)) w := by simp [execOp, e, Instr.panic, goPanic]
  rw [this]; exact ⟨st, g, hr, hq⟩⟩
def FnP (P : Program) (f : FuncId) (as : List AV) (hs : List (Nat × Blk)) (kp : List Nat) (pv : Value) (hs' : List (Nat × Blk)) : Prop :=
 FnR P f as hs kp (fun e v => e = .panicked [{ v := pv, recovered := false }]) (.tup []) hs'
theorem zqi {ops : Array Oper} {rest : List Oper} {dst : Option Tmp} {pos : String} {af : Array Edge} {fop : Operand} {args : Array Operand} {ts : Array TypeId} {f : FuncId} {caps xs ass : List AV} {hs hs' : List (Nat × Blk)} {kp : List Nat} {pv : Value}
 (μ : List (Nat × Nat)) (h : FnP P f ass hs kp pv hs') (hf : ev st fop = some (.fn f caps)) (hx : evs st args.toList = some xs) (hμ : biOk μ = true) (hle : LeL (xs ++ caps) (ass.map (AV.ren μ))) (has : ass.all (AV.okN (keys hs)) = true)
 (hin : zaj st μ (keys hs) hs) (hout : ∀ p ∈ hs', (fwd μ p.1).isSome = true /\ p.2.okNB (keys hs') = true) (hnew : ∀ p ∈ μ, kp.any (·.beq p.1) = true \/ (hs.any (·.1.beq p.1) = true /\ hs'.any (·.1.beq p.1) = false) \/ (hs.any (·.1.beq p.1) = false /\ st.fr p.2 = true))
 (hkp : ∀ n ∈ kp, hs.any (·.1.beq n) = true) (hq : Q (pnc pv) (zba st μ hs hs' none (.tup []))) :
 Ex P C ops ({ dst := dst, op := .call { callee := .value fop, args := args, argTypes := ts }, type := ty, pos := pos, after := af, guard := none } :: rest) st Q := fun g a w hr =>
 wpListIn_plain rfl fun K hK => ⟨fun f _ => C.F_fn f, by
  obtain ⟨A, e2, h0⟩ := zfK (dst := none) (ty := ty) (ts := ts) μ h hf hx hμ hle has rfl hin hout hnew hkp rfl hr;rw [Oper.semAt_eq _ _ _ (by simp)];have e3 : (execOp a.eval { dst := dst, op := .call { callee := .value fop, args := args, argTypes := ts }, type := ty, pos := pos, after := af, guard := none }).run P w = .ok (.enter f A) w := e2 pos af none;rw [e3];refine ⟨fun hx => by rw [C.F_depth] at hx; simp at hx, ?_⟩;refine CallsIn.mono (C.calls h0) ?_
  rintro e w'' ⟨v, g', rfl, hr'⟩
  exact ⟨_, g', hr', hq⟩⟩
theorem ztj {ops : Array Oper} {rest : List Oper} {dst : Option Tmp} {pos : String} {af : Array Edge} {fop : Operand} {args : Array Operand} {ts : Array TypeId} {f : FuncId} {caps xs as' : List AV} {hs hs' : List (Nat × Blk)} {kp : List Nat} {pv : Value}
 (μ : List (Nat × Nat)) (h : FnP P f as' hs kp pv hs') (hq : Q (pnc pv) (zba st μ hs hs' none (.tup []))) (hf : ev st fop = some (.fn f caps) := by exact rfl) (hx : evs st args.toList = some xs := by exact rfl) (hμ : biOk μ = true := by exact rfl) (hle : LeL (xs ++ caps) (as'.map (AV.ren μ)) := by exact LeL.refl _) (has : as'.all (AV.okN (keys hs)) = true := by exact rfl)
 (hin : zaj st μ (keys hs) hs := by repeat' (first | exact True.intro | refine And.intro ⟨_, _, rfl, rfl, LeB.refl _, rfl⟩ ?_)) (hout : (hs'.all fun p => (fwd μ p.1).isSome && p.2.okNB (keys hs')) = true := by exact rfl)
 (hnew : (μ.all fun p => kp.any (·.beq p.1) || (hs.any (·.1.beq p.1) && !(hs'.any (·.1.beq p.1))) || (!(hs.any (·.1.beq p.1)) && st.fr p.2)) = true := by exact rfl)
 (hkp : (kp.all fun n => hs.any (·.1.beq n)) = true := by exact rfl) :
 Ex P C ops ({ dst := dst, op := .call { callee := .value fop, args := args, argTypes := ts }, type := ty, pos := pos, after := af, guard := none } :: rest) st Q := by
 refine zqi μ h hf hx hμ hle has hin (fun p hp => ?_) (fun p hp => ?_) (fun n hn => List.all_eq_true.1 hkp n hn) hq
 ·have := List.all_eq_true.1 hout p hp;simpa using this
 ·have := List.all_eq_true.1 hnew p hp;simp only [Bool.or_eq_true, Bool.and_eq_true, Bool.not_eq_true'] at this;rcases this with (h1 | h1) | h1
  ·exact .inl h1
  ·exact .inr (.inl h1)
  ·exact .inr (.inr h1)
end
def XW (P : Program) (C : Ctx) (c : Code) (st : St) (K : Exit -> Act -> World -> Prop) : Prop := ∀ g a w, Rel C st g a w -> c.wpIn C.F 0 P K a w
def QW (C : Ctx) (K : Exit -> Act -> World -> Prop) : Exit -> St -> Prop := fun e st => ∀ g a w, Rel C st g a w -> K e a w
section
variable {P : Program} {C : Ctx} {st : St} {K : Exit -> Act -> World -> Prop}
theorem XW.of {c : Code} (h : X P C c st (QW C K)) : XW P C c st K := fun g a w hr => wpIn_mono (h g a w hr) fun e a w ⟨st, g, hr, q⟩ => q g a w hr
theorem XW.seq {x y : Code} (h : X P C x st (zdF (fun st => XW P C y st K) (QW C K))) : XW P C (.seq x y) st K := fun g a w hr =>
 wpIn_seq (wpIn_mono (h g a w hr) fun e a w ⟨st, g, hr, q⟩ => by
  cases e <;> exact q g a w hr)
theorem XW.defer {id : Nat} {t : Nat} {f : FuncId} {cs : Array Operand} {xs : List AV} {ty1 ty2 : TypeId} {p1 p2 : String} {af1 af2 : Array Edge} {ts : Array TypeId} {c : Code} (kD : Nat)
 (h : ∀ us, XW P { C with df := [(.func f, us, #[])] } c ⟨(t, .fn f xs) :: st.t, (kD, .hold us.toList xs) :: st.h⟩ K) (hrd : C.rd = none := by rfl) (hx : cs.toList.mapM (ev st) = some xs := by exact rfl) (ht : t.blt C.n = true := by rfl) (hdf : C.df = [] := by rfl) :
 XW P C (.seq (.region id #[{ dst := some t, op := .makeFunc (.func f) #[] cs, type := ty1, pos := p1, after := af1, guard := none }, { dst := none, op := .defer { callee := .value (.tmp t), args := #[], argTypes := ts }, type := ty2, pos := p2, after := af2, guard := none }] false) c) st K := fun g a w hr =>
 wpIn_seq <| wpIn_region_lit (l := [_, _]) <| wpListIn_plain rfl fun K1 hK1 => zK <| by
  have hF : C.F.round = none := by unfold Ctx.F; rw [hrd]; rfl
  obtain ⟨v, h1, h2⟩ := zeL (ty := ty1) hx g a w (some t) p1 af1 none hr;unfold wp1; rw [h1];refine hK1 _ _ ?_;obtain ⟨us, e, hl, hu⟩ := zb2 h2;subst e;have hsz : t < a.tmps.size := by rw [hr.size]; simpa using ht
  have hev : (a.put (some t) (.func (.func f) #[] us.toArray)).eval (.tmp t) = .func (.func f) #[] us.toArray := by
   show (a.put (some t) (.func (.func f) #[] us.toArray)).tmps.getD t undef = _;rw [zaE hsz, if_pos rfl]
  refine wpListIn_plain rfl fun K2 hK2 => ⟨fun f _ => C.F_fn f, ?_⟩
  rw [hF, Oper.semAt_none]
  have h3 : (execOp (a.put (some t) (.func (.func f) #[] us.toArray)).eval { dst := none, op := .defer { callee := .value (.tmp t), args := #[], argTypes := ts }, type := ty2, pos := p2, after := af2, guard := none }).run P w = .ok (.defer { target := .fn (.func f) us.toArray, args := #[] }) w := by
   simp only [execOp, resolve, hev, Deferred.ofValue, Sem.run_bind, Sem.run_pure, Result.andThen_ok];simp
  rw [h3];refine hK2 _ _ (wpListIn_nil ?_);refine h us.toArray g _ w ?_;refine ⟨by simp [Act.put, hr.size], ?_, fun t' x hx' => ?_, ⟨hr.sat.im, hr.sat.ob, fun k B hB => ?_⟩, ⟨hr.ext.I, hr.ext.os, hr.ext.tape, hr.ext.output, hr.ext.drawn, hr.ext.size, hr.ext.keep, hr.ext.own⟩⟩
  ·obtain ⟨D, p1, p2, p3⟩ := hr.defers;obtain ⟨D1, D2, rfl, q⟩ := p1;rw [hdf] at q;refine ⟨D1 ++ D2, ⟨[], D1 ++ D2, rfl, ?_⟩, p2, p3⟩;show { target := .fn (.func f) us.toArray, args := #[] } :: a.defers = _;rw [q]; simp [dfD]
  ·show RV g.I g.ρ x ((a.put (some t) (.func (.func f) #[] us.toArray)).tmps.getD t' undef);rw [zaE hsz];simp only [yj] at hx';by_cases e : t = t'
   ·subst e; simp at hx'; subst hx'; rw [if_pos rfl]; exact h2
   ·rw [if_neg e];have : t.beq t' = false := beqF.2 e;simp [this] at hx';exact hr.tmps t' x hx'
  ·simp only [yj] at hB;cases hb : kD.beq k
   ·simp only [hb, cond_false] at hB;have := hr.sat.blk k B hB;cases B <;> exact this
   ·simp only [hb, cond_true] at hB;injection hB with hB; subst hB;exact ⟨by simpa using hl, fun j c v hc hv => hu j c v hc (by simpa using hv)⟩
end
theorem ztk {C : Ctx} {ds : List Deferred} {D : List Nat} {x : Nat} (h : Sh C (mkD x :: ds) D) : ∃ D', D = x :: D' /\ Sh C ds D' := by
 obtain ⟨D1, D2, rfl, h⟩ := h;cases D1 with
 | cons e r =>
  simp only [List.map_cons, List.cons_append, List.cons.injEq] at h;obtain ⟨h1, h2⟩ := h;have := zjr h1; subst this;exact ⟨r ++ D2, rfl, r, D2, rfl, h2⟩
 | nil =>
  cases hdf : C.df with
  | nil =>
   rw [hdf] at h;cases D2 with
   | nil => simp at h
   | cons e r =>
    simp only [List.map_nil, List.nil_append, List.map_cons, List.cons.injEq] at h;obtain ⟨h1, h2⟩ := h;have := zjr h1; subst this;exact ⟨r, rfl, [], r, rfl, by rw [hdf]; simpa using h2⟩
  | cons e r =>
   rw [hdf] at h;simp only [List.map_nil, List.nil_append, List.map_cons, List.cons_append, List.cons.injEq] at h;exact absurd (congrArg Deferred.target h.1) (by simp [dfD, mkD])
theorem zf3 {C : Ctx} {P : Program} {st : St} {tmps : Array Value} {x : Nat} {ds : List Deferred} {g : Gh} {w : World} (hr : Rel C st g { tmps := tmps, defers := mkD x :: ds } w) : ∃ w', (Instr.takeDeferred x).run P w = .ok [] w' /\ Rel C st g { tmps := tmps, defers := ds } w' := by
 obtain ⟨D, hD, hnd, hDr⟩ := hr.defers;obtain ⟨D', rfl, hD'⟩ := ztk (show Sh C (mkD x :: ds) D from hD);obtain ⟨h1, h2, h3⟩ := hDr x (by simp);have hlt : x < w.heap.size := yW h1;let w' : World := { w with heap := w.heap.setIfInBounds x (.deferred none) }
 have hm : w.grownBy w' (some x) := ⟨rfl, rfl, rfl, by simp [w'], fun k hk hne => by
  have : x ≠ k := fun e => hne (by rw [e])
  simp [w', this]⟩
 refine ⟨w', run_takeDeferred h1, ?_⟩
 have him : ∀ b o u, g.I b o = some u -> w'.cell? ⟨b, o, none⟩ = some u /\ g.O b = none := fun b o u hI => by
  obtain ⟨h4, h5⟩ := hr.sat.im b o u hI;refine ⟨?_, h5⟩
  have hne : b ≠ x := fun e => by
   subst e;simp only [World.cell?, h1] at h4;simp at h4
  rw [World.cell?_of_block (w := w) (a := ⟨b, o, none⟩) (hm.block b (zbm h4) (by simpa using hne))]; exact h4
 have hob : ObO g.I g.O w' := hr.sat.ob.up (Im.le_refl _) hm.size;refine ⟨hr.size, ⟨D', hD', (List.nodup_cons.1 hnd).2, fun y hy => ?_⟩, hr.tmps, ⟨him, hob, fun k B hB => (hr.sat.blk k B hB).farN hm (Nat.le_refl _) h2 h3 ⟨him, hob⟩⟩, ?_⟩
 ·obtain ⟨h4, h5, h6⟩ := hDr y (by simp [hy]);have hlt' : y < w.heap.size := yW h4;have hne : y ≠ x := fun e => (List.nodup_cons.1 hnd).1 (e ▸ hy)
  exact ⟨(hm.block y hlt' (by simpa using hne)).trans h4, h5, h6⟩
 ·exact ⟨hr.ext.I, hm.os.trans hr.ext.os, hm.tape.trans hr.ext.tape, hm.output.trans hr.ext.output, hr.ext.drawn, Nat.le_trans hr.ext.size hm.size, fun b hb hn ho => by
   have hne : b ≠ x := fun e => by subst e; omega
   obtain ⟨h4, h5⟩ := hr.ext.keep b hb hn ho;exact ⟨(hm.block b (Nat.lt_of_lt_of_le hb hr.ext.size) (by simpa using hne)).trans h4, h5⟩, hr.ext.own⟩
theorem zea {C : Ctx} {P : Program} {fn : Func} {R : Ending -> World -> Prop} {st : St} {tmps : Array Value} {u : FrameMode} (hu : u ≠ .run) {tl : List Deferred} (hK : ∀ g w, Rel C st g { tmps := tmps, defers := tl } w -> LeavesInM Fence.wide 0 P fn tmps R tl u w) :
 ∀ (D1 : List Nat) {g : Gh} {w : World}, Rel C st g { tmps := tmps, defers := D1.map mkD ++ tl } w -> LeavesInM Fence.wide 0 P fn tmps R (D1.map mkD ++ tl) u w
 | [], g, w, hr => hK g w hr
 | x :: D1, g, w, hr => by
  obtain ⟨w', h1, h2⟩ := zf3 (P := P) (x := x) (ds := D1.map mkD ++ tl) hr;exact ⟨hu, .inl ⟨x, w', rfl, h1, zea hu hK D1 h2⟩⟩
abbrev Ctx.bare (C : Ctx) : Ctx := { C with df := [] }
theorem zld {C : Ctx} {st : St} {g : Gh} {a : Act} {w : World} (h : Rel C st g a w) {E : List Nat} {ds : List Deferred} (he : a.defers = ds) (hs : Sh C a.defers E) {tl : List Nat} (ht : ∀ r ∈ tl, r ∈ E) (hn : tl.Nodup) : Rel C.bare st g { a with defers := tl.map mkD } w := by
 obtain ⟨D, h1, h2, h3⟩ := h.defers;refine ⟨h.size, ⟨tl, ⟨[], tl, rfl, by simp⟩, hn, fun r hr => h3 r (h1.mem.1 (hs.mem.2 (ht r hr)))⟩, h.tmps, ⟨h.sat.im, h.sat.ob, fun k B hB => ?_⟩, ⟨h.ext.I, h.ext.os, h.ext.tape, h.ext.output, h.ext.drawn, h.ext.size, h.ext.keep, h.ext.own⟩⟩;have := h.sat.blk k B hB;cases B <;> exact this
theorem zh8 {C : Ctx} {P : Program} {fn : Func} {rv : List ResultVar} {r : AV} {R : Ending -> World -> Prop} (hrv : fn.results = rv.toArray) {st stf : St} (hret : RetVs P stf rv r) {tmps : Array Value} {cl : FuncId} {us : Array Value} {u u' : FrameMode}
 (hdf : C.df = [(.func cl, us, #[])]) (hu : u ≠ .run) (hset : settle u' = .returning) (hok : zZ P cl = true)
 (hcall : ∀ g a w, Rel C.bare st g a w -> CallsDIn Fence.wide 0 P cl us u w fun e um w' => um = u' /\ ∃ v g', e = .returned v /\ Rel C.bare stf g' a w')
 (hR : ∀ g w v, Rel C.bare stf g { tmps := tmps, defers := [] } w -> RV g.I g.ρ r v -> R (.returned v) w) {g : Gh} {w : World} {ds : List Deferred} (hr : Rel C st g { tmps := tmps, defers := ds } w) : LeavesInM Fence.wide 0 P fn tmps R ds u w := by
 obtain ⟨D, hD, hnd, hDr⟩ := hr.defers;have hD0 := hD;obtain ⟨D1, D2, rfl, e⟩ := hD;simp only at e;subst e;refine zea hu (fun g1 w1 hr1 => ?_) D1 hr;rw [hdf] at hr1 ⊢;simp only [List.map_cons, List.map_nil, List.cons_append, List.nil_append] at hr1 ⊢;have hsh : Sh C (dfD (.func cl, us, #[]) :: D2.map mkD) D2 := ⟨[], D2, rfl, by rw [hdf]; rfl⟩;have hb := zld hr1 rfl hsh (tl := D2) (fun r h => h) (List.nodup_append.1 hnd).2.1;refine ⟨hu, .inr ⟨fun h => absurd h (by decide), .func cl, us, cl, us, rfl, ?_, fun _ _ => trivial, ?_⟩⟩
 ·show (invoke (dfD (.func cl, us, #[])).target (dfD (.func cl, us, #[])).args).run P w1 = _;simp only [dfD, invoke, zH hok];simp
 ·obtain ⟨h1, h2⟩ := hcall g1 _ w1 hb;refine ⟨h1, fun c cs hc hroom => ?_⟩;obtain ⟨e, um, w', fr, ⟨rfl, v, g', rfl, hr'⟩, h3⟩ := h2 c cs hc hroom;refine ⟨.returned v, um, w', fr, ?_, h3⟩;show LeavesInM Fence.wide 0 P fn tmps R (D2.map mkD) (settle um) w';rw [hset];have := zea (C := C.bare) (P := P) (fn := fn) (R := R) (st := stf) (tmps := tmps) (u := .returning) (by simp) (tl := []) (fun g3 w3 hr3 => ?_) D2 (g := g') (w := w') (by rw [List.append_nil]; exact hr')
  ·rw [List.append_nil] at this; exact this
  ·obtain ⟨x, hx1, hx2⟩ := zf2 hr3 hrv hret;exact ⟨x, hx1, hR g3 w3 x hr3 hx2⟩
def EndF (g : Gh) (w : World) (r : AV) : Ending -> World -> Prop := fun e w' => ∃ v g', e = .returned v /\ RV g'.I noNames r v /\ Add none g w g' w' /\ ImOB g' w'
theorem EndF.of {n d : Nat} {g : Gh} {w w3 : World} {r : AV} {g3 : Gh} {st : St} {a : Act} {v : Value} (hnm : r.nm = true) (hd : ∀ b n, g.O b ≠ some (d, n)) (hr3 : Rel (C0 n d ⟨noNames, g.I, g.O⟩ w) st g3 a w3) (hv : RV g3.I g3.ρ r v) : EndF g w r (.returned v) w3 := by
 have hnk : ∀ b, b < w.heap.size -> ¬ (C0 n d ⟨noNames, g.I, g.O⟩ w).okb b := fun b hb hk => by
  rcases hk with hk | ⟨m, hk⟩
  ·simp at hk; omega
  ·exact hd b m hk
 have hno : ∀ b, ¬ (C0 n d ⟨noNames, g.I, g.O⟩ w).oth b := fun b ⟨y, m, hy, _⟩ => by simp at hy
 refine ⟨v, { ρ := g.ρ, I := g3.I, O := g3.O }, rfl, hv.forget hnm, ⟨hr3.ext.I, fun _ _ => rfl, fun b hlt => ?_, ⟨hr3.ext.os, hr3.ext.tape, hr3.ext.output, hr3.ext.drawn, hr3.ext.size, fun b hlt => ?_⟩⟩, ⟨hr3.sat.im, hr3.sat.ob⟩⟩
 ·exact (hr3.ext.keep b hlt (hnk b hlt) (hno b)).2
 ·exact (hr3.ext.keep b hlt (hnk b hlt) (hno b)).1
def zoO (P : Program) (fn : Func) (d : Nat) (g : Gh) (w : World) (r : AV) : Exit -> Act -> World -> Prop := fun e a w' => (∀ b n, g.O b ≠ some (d, n)) -> bodyPostM Fence.wide 0 P fn (EndF g w r) e a w'
theorem zm2 {P : Program} {f : FuncId} {fn : Func} {c : Code} {n : Nat} {as : List AV} {ts : List (Nat × AV)} {r : AV} (hc : zZ P f = true) (hf : P.funcs[f]? = some fn) (hb : fn.body = some c) (hn : fn.ntmps = n)
 (hnm : r.nm = true) (hts : zaQ 0 as = ts) (hlen : as.length <= n) (h : ∀ g w d, XW P (C0 n d ⟨noNames, g.I, g.O⟩ w) c ⟨ts, []⟩ (zoO P fn d g w r)) : Fn P f as r := by
 refine ⟨hc, hnm, fun g w args him hargs => (callsIn_wide (n := 0)).1 (callsIn_of_wp_marks hf hb trivial ?_)⟩;subst hts;obtain ⟨d, hd, -⟩ := zb8 g.O w.heap.size [] him.2.1;have hrel := zd8 (C := C0 n d ⟨noNames, g.I, g.O⟩ w) (I := g.I) (O := g.O) (m := fn.ntmps) rfl rfl hn hlen him hargs;exact wpIn_mono (h g w d _ _ w hrel) fun e a w' hq => hq hd
theorem zoO.plain {P : Program} {fn : Func} {n d : Nat} {g : Gh} {w : World} {r : AV} {rv : List ResultVar} {e : Exit} {st : St} (hrv : fn.results = rv.toArray) (hnm : r.nm = true) (h : RetQ P (C0 n d ⟨noNames, g.I, g.O⟩ w) rv r e st) : QW (C0 n d ⟨noNames, g.I, g.O⟩ w) (zoO P fn d g w r) e st := fun g1 a w1 hr hd => by
 obtain ⟨he, st', himp, hret⟩ := h;obtain ⟨g2, hr2⟩ := himp g1 a w1 hr
 have hfin : LeavesInM Fence.wide 0 P fn a.tmps (EndF g w r) a.defers .returning w1 := by
  obtain ⟨D, hD, hnd, hDr⟩ := hr2.defers;exact zap hrv hret rfl (fun g3 w3 v hr3 hv => EndF.of hnm hd hr3 hv) D hD.plain hnd hDr ⟨hr2.size, Dfs.nil _ _ _, hr2.tmps, hr2.sat, hr2.ext⟩
 rcases he with rfl | rfl <;> exact hfin
def FnD (P : Program) (f : FuncId) (as : List AV) (hs : List (Nat × Blk)) (kp : List Nat) (u u' : FrameMode) (hs' : List (Nat × Blk)) : Prop :=
 zZ P f = true /\ ∀ (d : Nat) (ρ : Nat -> Value) (I : Im) (O : Owns) (w : World) (args : List Value), Sat (C0 0 d ⟨ρ, I, O⟩ w) hs ⟨ρ, I, O⟩ w -> RVL I ρ as args →
  CallsDIn Fence.wide 0 P f args.toArray u w fun e um w' => um = u' /\ ∃ v ρ' I' O', e = .returned v /\ Sat (C0 0 d ⟨ρ, I, O⟩ w) hs' ⟨ρ', I', O'⟩ w' /\ RV I' ρ' (.tup []) v /\ Ext (C0 0 d ⟨ρ, I, O⟩ w) ⟨ρ', I', O'⟩ w' /\ ∀ n ∈ kp, ρ' n = ρ n
theorem FnD.call {P : Program} {C : Ctx} {st : St} {f : FuncId} {as : List AV} {hs hs' : List (Nat × Blk)} {kp : List Nat} {u u' : FrameMode} {vals : List Value}
 (μ : List (Nat × Nat)) (h : FnD P f as hs kp u u' hs') (hμ : biOk μ = true) (has : as.all (AV.okN (keys hs)) = true) (hin : zaj st μ (keys hs) hs) (hout : ∀ p ∈ hs', (fwd μ p.1).isSome = true /\ p.2.okNB (keys hs') = true)
 (hnew : ∀ p ∈ μ, kp.any (·.beq p.1) = true \/ (hs.any (·.1.beq p.1) = true /\ hs'.any (·.1.beq p.1) = false) \/ (hs.any (·.1.beq p.1) = false /\ st.fr p.2 = true)) (hkp : ∀ n ∈ kp, hs.any (·.1.beq n) = true) {g : Gh} {a : Act} {w : World} (hr : Rel C st g a w) (hall : RVL g.I g.ρ (as.map (AV.ren μ)) vals) :
 CallsDIn Fence.wide 0 P f vals.toArray u w fun e um w' => um = u' /\ ∃ v g', e = .returned v /\ Rel C (zba st μ hs hs' none (.tup [])) g' a w' := by
 have := zlc (T := fun A w R => CallsDIn Fence.wide 0 P f A u w fun e um w' => um = u' /\ R e w') (E := fun e v => e = .returned v) (dst := none)
  (fun {A w R R'} h1 h2 => ⟨h1.1, fun c cs hc hroom => let ⟨e, um, w', fr, ⟨q1, q2⟩, q3⟩ := h1.2 c cs hc hroom; ⟨e, um, w', fr, ⟨q1, h2 e w' q2⟩, q3⟩⟩) μ h.2 hμ has rfl hin hout hnew hkp rfl hr hall
 exact this
theorem zeu {P : Program} {fn : Func} {n d : Nat} {g : Gh} {w : World} {r : AV} {rv : List ResultVar} {e : Exit} {st st' : St} {cl : FuncId} {us : Array Value} {as xs : List AV} {hs hs' : List (Nat × Blk)} {kp : List Nat} {u u' : FrameMode} {kD : Nat} (μ : List (Nat × Nat)) (h : FnD P cl as hs kp u u' hs')
 (he : (e = .ret /\ u = .returning) \/ (e = .normal /\ u = .returning) \/ ∃ ch, e = .panic ch /\ u = .panicking ch) (hrv : fn.results = rv.toArray) (hnm : r.nm = true) (hi : Imp { C0 n d ⟨noNames, g.I, g.O⟩ w with df := [(.func cl, us, #[])] } st st') (hD : lk st'.h kD = some (.hold us.toList xs)) (hle : LeL xs (as.map (AV.ren μ)))
 (hret : RetVs P (zba st' μ hs hs' none (.tup [])) rv r) (hset : settle u' = .returning)
 (hμ : biOk μ = true) (has : as.all (AV.okN (keys hs)) = true) (hin : zaj st' μ (keys hs) hs) (hout : (hs'.all fun p => (fwd μ p.1).isSome && p.2.okNB (keys hs')) = true)
 (hnew : (μ.all fun p => kp.any (·.beq p.1) || (hs.any (·.1.beq p.1) && !(hs'.any (·.1.beq p.1))) || (!(hs.any (·.1.beq p.1)) && st'.fr p.2)) = true) (hkp : (kp.all fun n => hs.any (·.1.beq n)) = true) :
 QW { C0 n d ⟨noNames, g.I, g.O⟩ w with df := [(.func cl, us, #[])] } (zoO P fn d g w r) e st := fun g1 a w1 hr hd => by
 obtain ⟨g2, hr2⟩ := hi g1 a w1 hr
 have hfin : LeavesInM Fence.wide 0 P fn a.tmps (EndF g w r) a.defers u w1 := by
  refine zh8 (C := { C0 n d ⟨noNames, g.I, g.O⟩ w with df := [(.func cl, us, #[])] }) hrv hret rfl (by rcases he with ⟨_, rfl⟩ | ⟨_, rfl⟩ | ⟨ch, _, rfl⟩ <;> simp) hset h.1 (fun g3 a3 w3 hr3 => ?_) (fun g3 w3 v hr3 hv => EndF.of hnm hd hr3 hv) hr2;have hh := hr3.sat.blk kD _ hD
  have := h.call μ hμ has hin (fun p hp => by have := List.all_eq_true.1 hout p hp; simpa using this) (fun p hp => by
   have := List.all_eq_true.1 hnew p hp;simp only [Bool.or_eq_true, Bool.and_eq_true, Bool.not_eq_true'] at this;rcases this with (h1 | h1) | h1
   ·exact .inl h1
   ·exact .inr (.inl h1)
   ·exact .inr (.inr h1)) (fun n hn => List.all_eq_true.1 hkp n hn) hr3 (hle.rvl (vs := us.toList) hh)
  exact this
 rcases he with ⟨rfl, rfl⟩ | ⟨rfl, rfl⟩ | ⟨ch, rfl, rfl⟩ <;> exact hfin
theorem zix {C : Ctx} {P : Program} {st : St} {tmps : Array Value} : ∀ (D : List Nat) {g : Gh} {w : World} (fr : Frame) (cs : List Frame), fr.mode ≠ .run -> fr.defers = D.map mkD -> Rel C st g { tmps := tmps, defers := D.map mkD } w →
 ∃ w', Rel C st g { tmps := tmps, defers := [] } w' /\ StepsIn (Machine.fenced P Fence.wide) P (lone fr cs w) (lone { fr with defers := [] } cs w')
 | [], g, w, fr, cs, hm, hd, hr => ⟨w, hr, by
  have : { fr with defers := [] } = fr := by
   have e : fr.defers = [] := hd;rw [← e]
  rw [this]; exact StepsIn.refl _⟩
 | x :: D, g, w, fr, cs, hm, hd, hr => by
  obtain ⟨w1, h1, h2⟩ := zf3 (P := P) (x := x) (ds := D.map mkD) hr;obtain ⟨w', h3, h4⟩ := zix D { fr with defers := [] ++ D.map mkD } cs hm rfl h2;refine ⟨w', h3, StepsIn.trans (.one ?_ (step_collected (cs := cs) hm (d := mkD x) (ds := D.map mkD) hd rfl h1)) h4⟩;exact fenced_out (n := 0) trivial (by simp [Fence.room, Fence.wide]) hm hd (fun g hg => by simp [mkD, Target.leads] at hg)
def zrI (C : Ctx) (c0 : Frame) (cs : List Frame) (Q : FrameMode -> Exit -> St -> Prop) : Exit -> Act -> List Frame -> World -> Prop := fun e a cs' w => ∃ um st g, cs' = { c0 with mode := um } :: cs /\ Rel C st g a w /\ Q um e st
def XS (P : Program) (C : Ctx) (c : Code) (u : FrameMode) (st : St) (Q : FrameMode -> Exit -> St -> Prop) : Prop := ∀ g a w, Rel C st g a w -> ∀ (c0 : Frame) (cs : List Frame), c0.mode = u -> c.wpSIn Fence.wide 0 P (zrI C c0 cs Q) a (c0 :: cs) w
section
variable {P : Program} {C : Ctx} {st : St} {Q : FrameMode -> Exit -> St -> Prop} {u : FrameMode}
theorem zhH {F : Fence} {n : Nat} {c : Code} {Q Q' : Exit -> Act -> List Frame -> World -> Prop} {a : Act} {cs : List Frame} {w : World} (h : c.wpSIn F n P Q a cs w) (hq : ∀ e a cs w, Q e a cs w -> Q' e a cs w) : c.wpSIn F n P Q' a cs w :=
 fun b k h1 h2 h3 h4 => let ⟨e, a', cs', w', l, q, r⟩ := h b k h1 h2 h3 h4; ⟨e, a', cs', w', l, hq _ _ _ _ q, r⟩
theorem XS.of {c : Code} (h : X P C c st (Q u)) (hrd : C.rd = none := by rfl) : XS P C c u st Q := fun g a w hr c0 cs hu =>
 wpSIn_of_wpIn rfl (by
  have hF : C.F = Fence.wide := by unfold Ctx.F; rw [hrd]
  have := h g a w hr;rw [hF] at this;exact wpIn_mono this fun e a w ⟨st, g, hr, q⟩ => ⟨u, st, g, by rw [← hu], hr, q⟩)
theorem XS.seq {x y : Code} (h : XS P C x u st (fun um e st => match e with | .normal => XS P C y um st Q | e => Q um e st)) : XS P C (.seq x y) u st Q := fun g a w hr c0 cs hu =>
 wpSIn_seq (zhH (h g a w hr c0 cs hu) fun e a cs' w ⟨um, st, g, hcs, hr, q⟩ => by
  cases e
  case normal =>
   subst hcs;have := q g a w hr { c0 with mode := um } cs rfl;exact zhH this fun e a cs' w h => h
  all_goals exact ⟨um, st, g, hcs, hr, q⟩)
theorem XS.recover {id t t2 : Nat} {ts : Array TypeId} {ty1 ty2 : TypeId} {p1 p2 : String} {af1 af2 : Array Edge} {v : Value} {um : FrameMode} (ht : t.blt C.n = true) (ht2 : t2.blt C.n = true)
 (hv : (u = .returning /\ um = .returning /\ v = .nilIface) \/ ∃ older, u = .panicking ({ v := v, recovered := false } :: older) /\ um = .panicking ({ v := v, recovered := true } :: older))
 (h : Q um .normal ⟨(t2, .val v) :: (t, .val v) :: st.t, st.h⟩) :
 XS P C (.region id #[{ dst := some t, op := .call { callee := .builtin .recover, args := #[], argTypes := ts }, type := ty1, pos := p1, after := af1, guard := none }, { dst := some t2, op := .assign (.tmp t), type := ty2, pos := p2, after := af2, guard := none }] false) u st Q := fun g a w hr c0 cs hu => by
 refine wpSIn_region ?_;have hsz : t < a.tmps.size := by rw [hr.size]; simpa using ht
 have hput : ∀ {a : Act} {st : St} (d : Nat), Rel C st g a w -> d < a.tmps.size -> Rel C ⟨(d, .val v) :: st.t, st.h⟩ g (a.put (some d) v) w := fun {a st} d hr hd => by
  refine ⟨by simp [Act.put, hr.size], hr.defers, fun t' x hx' => ?_, hr.sat, hr.ext⟩;show RV g.I g.ρ x ((a.put (some d) v).tmps.getD t' undef);rw [zaE hd];simp only [yj] at hx';by_cases e : d = t'
  ·subst e; simp at hx'; subst hx'; rw [if_pos rfl]; exact .val v
  ·rw [if_neg e];have : d.beq t' = false := beqF.2 e;simp [this] at hx';exact hr.tmps t' x hx'
 have hr1 := hput t hr hsz;have hr2 := hput t2 hr1 (by rw [hr1.size]; simpa using ht2)
 have hev : (a.put (some t) v).eval (.tmp t) = v := by
  show (a.put (some t) v).tmps.getD t undef = _;rw [zaE hsz, if_pos rfl]
 have e1 : (execOp a.eval { dst := some t, op := .call { callee := .builtin .recover, args := #[], argTypes := ts }, type := ty1, pos := p1, after := af1, guard := none }).run P w = .ok .recover w := by
  simp [execOp, resolve, invoke, builtin]
 have e2 : (execOp (a.put (some t) v).eval { dst := some t2, op := .assign (.tmp t), type := ty2, pos := p2, after := af2, guard := none }).run P w = .ok (.value v) w := by
  simp only [execOp, hev]; rfl
 have hfin : ∀ cs', cs' = { c0 with mode := um } :: cs -> zrI C c0 cs Q .normal ((a.put (some t) v).put (some t2) v) cs' w := fun cs' e => ⟨um, _, g, e, hr2, h⟩
 rcases hv with ⟨rfl, rfl, rfl⟩ | ⟨older, rfl, rfl⟩
 ·have e3 : recoverD (c0 :: cs) = none := by simp [recoverD, hu]
  simp only [Array.size, List.length_cons, List.length_nil, List.range, List.range.loop, wpOpsSIn, List.getElem?_toArray, List.getElem?_cons_zero, List.getElem?_cons_succ, Region.wanted, if_true, e1, e2, e3];refine ⟨fun _ _ => trivial, fun _ _ => trivial, hfin _ (by rw [← hu])⟩
 ·have e3 : recoverD (c0 :: cs) = some (v, { c0 with mode := .panicking ({ v := v, recovered := true } :: older) } :: cs) := by simp [recoverD, hu]
  simp only [Array.size, List.length_cons, List.length_nil, List.range, List.range.loop, wpOpsSIn, List.getElem?_toArray, List.getElem?_cons_zero, List.getElem?_cons_succ, Region.wanted, if_true, e1, e2, e3];exact ⟨fun _ _ => trivial, fun _ _ => trivial, hfin _ rfl⟩
end
def zvM (C : Ctx) (u' : FrameMode) (vs : List Value) (cs : List AV) (hs' : List (Nat × Blk)) (um : FrameMode) (e : Exit) (st : St) : Prop :=
 um = u' /\ (e = .normal \/ e = .ret) /\ ∃ ts ex, Imp C st ⟨ts, (kN, .hold vs cs) :: (hs' ++ ex)⟩
theorem FnD.intro {P : Program} {f : FuncId} {fn : Func} {c : Code} {n : Nat} {az : List AV} {ts : List (Nat × AV)} {hs hs' : List (Nat × Blk)} {kp : List Nat} {cs : List AV} {u u' : FrameMode} (hc : zZ P f = true) (hf : P.funcs[f]? = some fn) (hb : fn.body = some c) (hn : fn.ntmps = n) (hrv : fn.results = #[]) (hu' : u' ≠ .run)
 (hts : zaQ 0 az = ts) (hlen : az.length <= n) (hkn' : (hs'.all fun p => !(p.1.beq kN)) = true) (hkp : kp.mapM (hdr hs) = some cs) (hkp' : kp.mapM (hdr hs') = some cs)
 (h : ∀ g w d vs, XS P (C0 n d g w) c u ⟨ts, (kN, .hold vs cs) :: hs⟩ (zvM (C0 n d g w) u' vs cs hs')) : FnD P f az hs kp u u' hs' := by
 refine ⟨hc, fun d ρ I O w args hsat hargs => ?_⟩;subst hts;have hsz : args.length = az.length := hargs.1;let C := C0 n d ⟨ρ, I, O⟩ w
 have hrel : Rel C ⟨zaQ 0 az, (kN, .hold (kp.map ρ) cs) :: hs⟩ ⟨ρ, I, O⟩ { tmps := args.toArray ++ Array.replicate (fn.ntmps - args.toArray.size) undef, defers := [] } w := by
  refine ⟨by simp [hn, C]; omega, Dfs.nil _ _ _, fun t x hx => ?_, ⟨hsat.im, hsat.ob, fun k B hB => ?_⟩, ⟨Im.le_refl _, rfl, rfl, rfl, Nat.le_refl _, Nat.le_refl _, fun _ _ _ _ => ⟨rfl, rfl⟩, fun b y n _ hy => ⟨n, hy⟩⟩⟩
  ·obtain ⟨_, hx'⟩ := zb7 (I := I) (ρ := ρ) az 0 t x hx;simp only [Nat.sub_zero] at hx';have ht : t < args.length := by rw [hsz]; exact (List.getElem?_eq_some_iff.1 hx').1
   have e : (args.toArray ++ Array.replicate (fn.ntmps - args.toArray.size) undef).getD t undef = args[t] := by
    simp [Array.getD_eq_getD_getElem?, Array.getElem?_append, ht]
   rw [e];exact hargs.2 t x _ hx' (List.getElem?_eq_getElem ht)
  ·simp only [yj] at hB;cases hbq : kN.beq k <;> simp [hbq] at hB
   ·exact (hsat.blk k B hB).ctx
   ·subst hB;exact zfv (g := ⟨ρ, I, O⟩) hsat hkp
 refine ⟨trivial, fun c₀ cs0 hu hroom => ?_⟩;let b : Frame := { (default : Frame) with fn := f, kind := .deferred, roundOf := none }
 have henter : Frame.enter P f args.toArray .deferred =
  b.atR { tmps := args.toArray ++ Array.replicate (fn.ntmps - args.toArray.size) undef, defers := [] } [.code c] := by
  simp [Frame.enter, Frame.atR, hf, hb, b]
 obtain ⟨e, a', cs', w', hl, hq, harr⟩ := h _ w d _ _ _ w hrel c₀ cs0 hu b [] rfl rfl trivial hroom;rw [← henter] at harr;obtain ⟨um, st, g1, rfl, hr1, rfl, he, ts', ex', himp⟩ := hq;obtain ⟨g2, hr2⟩ := himp g1 a' w' hr1
 have hend : ∀ fr : Frame, fr.mode = .returning -> fr.defers = a'.defers -> fr.tmps = a'.tmps -> fr.kind = .deferred -> fr.fn = f -> ∃ e u'' w'' fr', (u'' = um /\ ∃ v ρ' I' O', e = .returned v /\ Sat (C0 0 d ⟨ρ, I, O⟩ w) hs' ⟨ρ', I', O'⟩ w'' /\ RV I' ρ' (.tup []) v /\ Ext (C0 0 d ⟨ρ, I, O⟩ w) ⟨ρ', I', O'⟩ w'' /\ ∀ n ∈ kp, ρ' n = ρ n) ∧
  ComesIn (Machine.fenced P Fence.wide) P (lone fr ({ c₀ with mode := um } :: cs0) w') (lone fr' ({ c₀ with mode := u'' } :: cs0) w'') e /\ fr'.kind = .deferred /\ fr'.fn = f /\ fr'.going P w'' e := fun fr h1 h2 h3 h4 h5 => by
  obtain ⟨D, hD, hnd, hDr⟩ := hr2.defers;have hpl := hD.plain (C := C) rfl;have hpl : a'.defers = D.map mkD := by rw [hpl]; simp [C]
  obtain ⟨w'', hr3, hst⟩ := zix (P := P) (C := C) (st := ⟨ts', (kN, .hold (kp.map ρ) cs) :: (hs' ++ ex')⟩) (tmps := a'.tmps) D (g := g2) (w := w') fr ({ c₀ with mode := um } :: cs0) (by rw [h1]; simp) (h2.trans hpl) (by rw [← hpl]; exact hr2)
  have hs3 : Sat (C0 0 d ⟨ρ, I, O⟩ w) hs' g2 w'' := ⟨hr3.sat.im, hr3.sat.ob, fun k B hB => by
   refine (hr3.sat.blk k B ?_).ctx
   have : kN.beq k = false := by
    cases hb : kN.beq k
    ·rfl
    ·have : kN = k := by simpa using hb
     subst this; rw [zdL hkn'] at hB; simp at hB
   simp [yj, this, zbL, hB]⟩
  have hh := hr3.sat.blk kN (.hold (kp.map ρ) cs) (by simp [yj]);refine ⟨.returned (.tuple #[]), um, w'', { fr with defers := [] }, ⟨rfl, .tuple #[], g2.ρ, g2.I, g2.O, rfl, hs3, RV.tup [] [] rfl (fun j c v hc => by simp at hc), ⟨hr3.ext.I, hr3.ext.os, hr3.ext.tape, hr3.ext.output, hr3.ext.drawn, hr3.ext.size, hr3.ext.keep, hr3.ext.own⟩, zdK (ρ := ρ) hs3 hkp' hh⟩, hst, h4, h5, ?_⟩;refine ⟨h1, rfl, fn, by rw [h5]; exact hf, ?_⟩;unfold results;rw [hrv]; simp
 rcases he with rfl | rfl
 ·obtain ⟨e, u'', w'', fr', h1, h2, h3⟩ := hend { b.atR a' [] with mode := .returning } rfl rfl rfl rfl rfl;exact ⟨e, u'', w'', fr', h1, ComesIn.of_steps (StepsIn.trans harr (.one (fenced_calm (fr := b.atR a' []) (n := 0) trivial hroom rfl) (stepR_end rfl))) h2, h3⟩
 ·obtain ⟨todo, hs⟩ := harr.1 rfl;obtain ⟨e, u'', w'', fr', h1, h2, h3⟩ := hend { b.atR a' todo with mode := .returning } rfl rfl rfl rfl rfl;exact ⟨e, u'', w'', fr', h1, ComesIn.of_steps hs h2, h3⟩
end Go.Rse
