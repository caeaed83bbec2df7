/-
  Code: sequences, tests, blocks, loops, calls, functions.
-/
import Derived.Test.YteecbmgddacioaaRse8
namespace Go.Rse
open Go Go.RowKit
set_option linter.unusedVariables false

def thenQ (next : St → Prop) (Q : Exit → St → Prop) : Exit → St → Prop
  | .normal, st => next st
  | e, st => Q e st
def inB (id : Nat) (Q : Exit → St → Prop) : Exit → St → Prop
  | .exit id', st => if id' = id then Q .normal st else Q (.exit id') st
  | e, st => Q e st

section
variable {P : Program} {C : Ctx} {st : St} {Q : Exit → St → Prop}

theorem X.skip (h : Q .normal st) : X P C .skip st Q := fun g a w hr => wpIn_skip ⟨st, g, hr, h⟩
theorem X.exit {id : Nat} (h : Q (.exit id) st) : X P C (.exit id) st Q := fun g a w hr => wpIn_exit ⟨st, g, hr, h⟩
theorem X.ret (h : Q .ret st) : X P C .ret st Q := fun g a w hr => wpIn_ret ⟨st, g, hr, h⟩
theorem X.label {l : Nat} (h : Q .normal st) : X P C (.label l) st Q := fun g a w hr => wpIn_label ⟨st, g, hr, h⟩
theorem X.mono {c : Code} {Q' : Exit → St → Prop} (h : X P C c st Q) (hq : ∀ e st, Q e st → Q' e st) : X P C c st Q' := fun g a w hr =>
  wpIn_mono (h g a w hr) fun e a w ⟨st, g, hr, q⟩ => ⟨st, g, hr, hq e st q⟩
theorem X.seq {x y : Code} (h : X P C x st (thenQ (fun st => X P C y st Q) Q)) : X P C (.seq x y) st Q := fun g a w hr =>
  wpIn_seq (wpIn_mono (h g a w hr) fun e a w ⟨st, g, hr, q⟩ => by
    cases e <;> first
      | exact q g a w hr
      | exact ⟨st, g, hr, q⟩)
theorem X.cond {c : Operand} {x y : Code} {b : Bool} (hc : ev st c = some (.bool b)) (ht : b = true → X P C x st Q) (hf : b = false → X P C y st Q) : X P C (.cond c x y) st Q := fun g a w hr =>
  wpIn_cond_split (inv_bool (ev_rv hr hc)) (fun h => ht h g a w hr) (fun h => hf h g a w hr)
theorem X.cond_true {c : Operand} {x y : Code} (hc : ev st c = some (.bool true)) (h : X P C x st Q) : X P C (.cond c x y) st Q := X.cond hc (fun _ => h) (fun h => by cases h)
theorem X.cond_false {c : Operand} {x y : Code} (hc : ev st c = some (.bool false)) (h : X P C y st Q) : X P C (.cond c x y) st Q := X.cond hc (fun h => by cases h) (fun _ => h)
theorem X.block {id : Nat} {c : Code} (h : X P C c st (inB id Q)) : X P C (.block id c) st Q := fun g a w hr =>
  wpIn_block (wpIn_mono (h g a w hr) fun e a w ⟨st, g, hr, q⟩ => by
    cases e
    case exit id' =>
      simp only [inB] at q
      simp only [Exit.inBlock]
      split
      · rename_i hid; rw [if_pos hid] at q; exact ⟨st, g, hr, q⟩
      · rename_i hid; rw [if_neg hid] at q; exact ⟨st, g, hr, q⟩
    all_goals exact ⟨st, g, hr, q⟩)
theorem X.region {id : Nat} {l : List Oper} (h : Ex P C l.toArray l st Q) : X P C (.region id l.toArray false) st Q := fun g a w hr => wpIn_region_lit (h g a w hr)

/-- A loop: at each round's head the state is I i for some i that meets J; the measure goes down. -/
theorem X.loop {ι : Type} {c : Code} (I : ι → St) (J : ι → Prop) (μ : ι → Nat) (i0 : ι) (h0 : Imp C st (I i0)) (hJ : J i0)
    (h : ∀ i, J i → X P C c (I i) (thenQ (fun st' => ∃ i', Imp C st' (I i') ∧ J i' ∧ μ i' < μ i) Q)) : X P C (.loop c) st Q := fun g a w hr => by
  obtain ⟨g0, hr0⟩ := h0 g a w hr
  refine wpIn_loop_ghost (fun n a w => ∃ i g, Rel C (I i) g a w ∧ J i ∧ μ i = n) (μ i0) ⟨i0, g0, hr0, hJ, rfl⟩ ?_
  rintro n a w ⟨i, g, hr, hj, rfl⟩
  refine wpIn_mono (h i hj g a w hr) fun e a w ⟨st, g, hr, q⟩ => ?_
  cases e <;> first
    | (obtain ⟨i', hi, hj', hlt⟩ := q
       obtain ⟨g', hr'⟩ := hi g a w hr
       exact ⟨μ i', hlt, i', g', hr', hj', rfl⟩)
    | exact ⟨st, g, hr, q⟩
end

/-! ### Calls -/
def callOk (P : Program) (f : FuncId) : Bool :=
  match P.funcs[f]? with
  | some fn => !(fn.name == "runtime.NumGoroutine") && fn.body.isSome
  | none => false
theorem run_callFunc {P : Program} {f : FuncId} (h : callOk P f = true) (args : Array Value) (w : World) : (callFunc f args).run P w = .ok (.enter f args) w := by
  unfold callOk at h
  split at h
  · rename_i fn hf
    simp only [Bool.and_eq_true, Bool.not_eq_true'] at h
    have hb : fn.body.isNone = false := by
      cases hbb : fn.body with
      | none => simp [hbb] at h
      | some c => rfl
    simp only [callFunc, Sem.run_bind, run_program, Result.andThen_ok, hf, h.1, hb]
    rfl
  · simp at h

/-- Called with as, function f returns r; memory may have grown, nothing else. -/
def Fn (P : Program) (f : FuncId) (as : List AV) (r : AV) : Prop :=
  callOk P f = true ∧ r.nm = true ∧ ∀ (g : Gh) (w : World) (args : List Value), ImOB g w → RVL g.I noNames as args →
    Calls P f args.toArray w fun e w' => ∃ v g', e = .returned v ∧ RV g'.I noNames r v ∧ Add none g w g' w' ∧ ImOB g' w'

def evs (st : St) : List Operand → Option (List AV)
  | [] => some []
  | x :: r => match ev st x, evs st r with
    | some y, some ys => some (y :: ys)
    | _, _ => none
theorem evs_rv {C : Ctx} {st : St} {g : Gh} {a : Act} {w : World} (hr : Rel C st g a w) : ∀ {xs : List Operand} {ys : List AV}, evs st xs = some ys → RVL g.I g.ρ ys (xs.map a.eval)
  | [], ys, h => by simp [evs] at h; subst h; exact ⟨rfl, fun j c v hc => by simp at hc⟩
  | x :: r, ys, h => by
    simp only [evs] at h
    cases h1 : ev st x with
    | none => simp [h1] at h
    | some y =>
      cases h2 : evs st r with
      | none => simp [h1, h2] at h
      | some zs =>
        simp [h1, h2] at h; subst h
        obtain ⟨hl, hv⟩ := evs_rv hr h2
        refine ⟨by simpa using hl, fun j c v hc hvv => ?_⟩
        cases j with
        | zero => simp at hc hvv; subst hc; subst hvv; exact ev_rv hr h1
        | succ j => exact hv j c v (by simpa using hc) (by simpa using hvv)
theorem RVL.forget {I : Im} {ρ ρ' : Nat → Value} {xs : List AV} {vs : List Value} (h : RVL I ρ xs vs) (hn : AV.nm.nmL xs = true) : RVL I ρ' xs vs := ⟨h.1, fun j c v hc hv => (h.2 j c v hc hv).forget (AV.nmL_get hn hc)⟩
theorem RVL.append {I : Im} {ρ : Nat → Value} {xs ys : List AV} {vs us : List Value} (h : RVL I ρ xs vs) (h' : RVL I ρ ys us) : RVL I ρ (xs ++ ys) (vs ++ us) := by
  refine ⟨by simp [h.1, h'.1], fun j c v hc hv => ?_⟩
  by_cases hj : j < xs.length
  · rw [List.getElem?_append_left hj] at hc
    rw [List.getElem?_append_left (by rw [h.1]; exact hj)] at hv
    exact h.2 j c v hc hv
  · rw [List.getElem?_append_right (by omega)] at hc
    rw [List.getElem?_append_right (by rw [h.1]; omega), h.1] at hv
    exact h'.2 _ c v hc hv

section
variable {P : Program} {C : Ctx} {st : St} {ty : TypeId}

/-- A call of a function or a closure: as are the arguments and behind them what it has captured. -/
theorem A_call {fop : Operand} {args : Array Operand} {ts : Array TypeId} {f : FuncId} {caps xs as : List AV} {r : AV} (hf : ev st fop = some (.fn f caps)) (hx : evs st args.toList = some xs) (hn : AV.nm.nmL (xs ++ caps) = true) (hle : LeL (xs ++ caps) as)
    (h : Fn P f as r) : StepA P C (.call { callee := .value fop, args := args, argTypes := ts }) ty st r none := fun g a w dst pos af gd hr K hK => by
  obtain ⟨us, e, hl, hu⟩ := inv_fn (ev_rv hr hf)
  have hargs := evs_rv hr hx
  have hall : RVL g.I noNames as (args.toList.map a.eval ++ us) := hle.rvl ((hargs.append ⟨hl, hu⟩).forget hn)
  have h0 := h.2.2 g w _ ⟨hr.sat.im, hr.sat.ob⟩ hall
  have e1 : (args.toList.map a.eval ++ us).toArray = args.map a.eval ++ us.toArray := by simp [← Array.toList_map]
  rw [e1] at h0
  have e2 : (execOp a.eval { dst := dst, op := .call { callee := .value fop, args := args, argTypes := ts }, type := ty, pos := pos, after := af, guard := gd }).run P w = .ok (.enter f (args.map a.eval ++ us.toArray)) w := by
    simp only [execOp, resolve, e, Deferred.ofValue, Sem.run_bind, Sem.run_pure, Result.andThen_ok, invoke, run_callFunc h.1]
    simp
  unfold wp1
  rw [e2]
  refine Calls.mono h0 ?_
  rintro e w' ⟨v, g', rfl, h1, h2, h3⟩
  refine ⟨v, rfl, ?_⟩
  have hg' : Add none g w { ρ := g.ρ, I := g'.I, O := g'.O } w' := ⟨h2.I, fun _ _ => rfl, h2.O, h2.grow⟩
  exact hK v w' { ρ := g.ρ, I := g'.I, O := g'.O } hg' (h1.forget h.2.1) h3 (fun _ _ h => by cases h)

theorem Ex.call {ops : Array Oper} {Q : Exit → St → Prop} {rest : List Oper} {d : Nat} {pos : String} {af : Array Edge} {fop : Operand} {args : Array Operand} {ts : Array TypeId} {f : FuncId} {caps xs : List AV} {r : AV}
    (hf : ev st fop = some (.fn f caps)) (hx : evs st args.toList = some xs) (hn : AV.nm.nmL (xs ++ caps) = true) (h : Fn P f (xs ++ caps) r) (hd : d.blt C.n = true) (hr : Ex P C ops rest { t := (d, r) :: st.t, h := st.h } Q) :
    Ex P C ops ({ dst := some d, op := .call { callee := .value fop, args := args, argTypes := ts }, type := ty, pos := pos, after := af, guard := none } :: rest) st Q :=
  Ex.stepA (A_call hf hx hn (LeL.refl _) h) hd rfl hr
end

/-! ### Functions -/
def inits : Nat → List AV → List (Nat × AV)
  | _, [] => []
  | i, x :: r => (i, x) :: inits (i + 1) r

inductive RetV (P : Program) (st : St) : ResultVar → AV → Prop
  | tmp {t : Nat} {x y : AV} (h : lk st.t t = some x) (hle : LeV x y) : RetV P st (.tmp t) y
  | cellS {t T k s i j : Nat} {cs : List AV} {E : TypeId} {x y : AV} (h : lk st.t t = some (.ptr k s i j)) (hk : lk st.h k = some (.box cs E)) (hx : cs[i * s + j]? = some x) (ht : tyOk P T false 1 = true) (hle : LeV x y) : RetV P st (.cell t T) y
  | cellA {t T k s i n : Nat} {cs : List AV} {E : TypeId} {y : AV} (h : lk st.t t = some (.ptr k s i 0)) (hk : lk st.h k = some (.box cs E)) (hi : i * s = 0) (hn : cs.length = n) (ht : tyOk P T true n = true) (hle : LeV (.agg cs) y) : RetV P st (.cell t T) y
inductive RetL (P : Program) (st : St) : List ResultVar → List AV → Prop
  | nil : RetL P st [] []
  | cons {v : ResultVar} {y : AV} {vs : List ResultVar} {ys : List AV} (h : RetV P st v y) (hs : RetL P st vs ys) : RetL P st (v :: vs) (y :: ys)
inductive RetVs (P : Program) (st : St) : List ResultVar → AV → Prop
  | one {v : ResultVar} {y : AV} (h : RetV P st v y) : RetVs P st [v] y
  | many {vs : List ResultVar} {ys : List AV} (hl : vs.length ≠ 1) (h : RetL P st vs ys) : RetVs P st vs (.tup ys)

/-- How a function's body may end. -/
def RetQ (P : Program) (C : Ctx) (rv : List ResultVar) (r : AV) : Exit → St → Prop := fun e st => (e = .normal ∨ e = .ret) ∧ ∃ st', Imp C st st' ∧ RetVs P st' rv r
theorem RetQ.ret {P : Program} {C : Ctx} {rv : List ResultVar} {r : AV} {st : St} (h : RetVs P st rv r) : RetQ P C rv r .ret st := ⟨.inr rfl, st, Imp.refl, h⟩
theorem RetQ.normal {P : Program} {C : Ctx} {rv : List ResultVar} {r : AV} {st : St} (h : RetVs P st rv r) : RetQ P C rv r .normal st := ⟨.inl rfl, st, Imp.refl, h⟩
theorem RetQ.imp {P : Program} {C : Ctx} {rv : List ResultVar} {r : AV} {st st' : St} {e : Exit} (hi : Imp C st st') (h : RetQ P C rv r e st') : RetQ P C rv r e st := ⟨h.1, let ⟨s, h1, h2⟩ := h.2; ⟨s, hi.trans h1, h2⟩⟩

def resOf (tmps : Array Value) : ResultVar → Sem Value
  | .tmp t => pure (tmps.getD t undef)
  | .cell a t => do loadVar t (← asAddr (tmps.getD a undef))

theorem run_resOf {P : Program} {C : Ctx} {st : St} {g : Gh} {a : Act} {w : World} (hr : Rel C st g a w) {v : ResultVar} {y : AV} (h : RetV P st v y) : ∃ u, (resOf a.tmps v).run P w = .ok u w ∧ RV g.I g.ρ y u := by
  cases h with
  | tmp h hle => exact ⟨_, rfl, hle _ _ _ (hr.tmps _ _ h)⟩
  | cellS h hk hx ht hle =>
    rename_i t T k s i j cs E x
    obtain ⟨b, hb, e⟩ := inv_ptr (hr.tmps _ _ h)
    obtain ⟨b', vs, h1, h2, h3, h4⟩ := box_cell (hr.sat.blk k _ hk)
    have : b' = b := by rw [h1] at hb; simpa [blkOf] using hb
    subst this
    have hlt : i * s + j < vs.size := by rw [h2]; exact (List.getElem?_eq_some_iff.1 hx).1
    have hv : vs[i * s + j]? = some vs[i * s + j] := Array.getElem?_eq_getElem hlt
    refine ⟨_, ?_, hle _ _ _ (h4 _ _ _ hx hv)⟩
    simp only [resOf, e, asAddr, Sem.run_bind, Sem.run_pure, Result.andThen_ok, run_loadVar_sc ht ((h3 _).trans hv)]
  | cellA h hk hi hn ht hle =>
    rename_i t T k s i n cs E
    obtain ⟨b, hb, e⟩ := inv_ptr (hr.tmps _ _ h)
    obtain ⟨b', vs, h1, h2, h3, h4⟩ := box_cell (hr.sat.blk k _ hk)
    have : b' = b := by rw [h1] at hb; simpa [blkOf] using hb
    subst this
    refine ⟨.agg vs.toList.toArray, ?_, hle _ _ _ (.agg cs vs.toList (by simpa using h2) (fun j c v hc hv => h4 j c v hc (by simpa using hv)))⟩
    have := run_loadVar_agg (P := P) (t := T) ht (b := b') (o := 0) (w := w) (vs := vs.toList) (by simp [h2, hn]) (fun j v hv => by rw [Nat.zero_add, h3]; simpa using hv)
    simp only [resOf, e, hi, Nat.zero_add, asAddr, Sem.run_bind, Sem.run_pure, Result.andThen_ok, this]

theorem run_resL {P : Program} {C : Ctx} {st : St} {g : Gh} {a : Act} {w : World} (hr : Rel C st g a w) {vs : List ResultVar} {ys : List AV} (h : RetL P st vs ys) : ∃ us, (vs.mapM (resOf a.tmps)).run P w = .ok us w ∧ RVL g.I g.ρ ys us := by
  induction h with
  | nil => exact ⟨[], rfl, rfl, fun j c v hc => by simp at hc⟩
  | cons h hs ih =>
    obtain ⟨u, h1, h2⟩ := run_resOf hr h
    obtain ⟨us, h3, h4⟩ := ih
    refine ⟨u :: us, ?_, by simpa using h4.1, fun j c v hc hv => ?_⟩
    · simp only [List.mapM_cons, Sem.run_bind, h1, Result.andThen_ok, h3, Sem.run_pure]
    · cases j with
      | zero => simp at hc hv; subst hc; subst hv; exact h2
      | succ j => exact h4.2 j c v (by simpa using hc) (by simpa using hv)

theorem run_results {P : Program} {C : Ctx} {st : St} {g : Gh} {a : Act} {w : World} (hr : Rel C st g a w) {fn : Func} {rv : List ResultVar} {r : AV} (hrv : fn.results = rv.toArray) (h : RetVs P st rv r) : ∃ u, (results fn a.tmps).run P w = .ok u w ∧ RV g.I g.ρ r u := by
  have e : results fn a.tmps = (do let vs ← rv.toArray.mapM (resOf a.tmps); pure (if h : vs.size = 1 then vs[0] else .tuple vs)) := by
    have ef : resOf a.tmps = (fun v : ResultVar => match v with
        | .tmp t => (pure (a.tmps.getD t undef) : Sem Value)
        | .cell b t => (do loadVar t (← asAddr (a.tmps.getD b undef)))) := funext fun v => by cases v <;> rfl
    simp only [results, hrv, ef]
    rfl
  have em : ∀ us, (rv.mapM (resOf a.tmps)).run P w = .ok us w → (rv.toArray.mapM (resOf a.tmps)).run P w = .ok us.toArray w := fun us hus => by
    rw [List.mapM_toArray, Sem.run_map, hus]
    rfl
  rw [e]
  cases h with
  | one h =>
    obtain ⟨u, h1, h2⟩ := run_resOf hr h
    refine ⟨u, ?_, h2⟩
    have := em [u] (by simp only [List.mapM_cons, List.mapM_nil, Sem.run_bind, h1, Result.andThen_ok, Sem.run_pure])
    simp only [Sem.run_bind, this, Result.andThen_ok, Sem.run_pure]
    simp
  | many hl h =>
    obtain ⟨us, h1, h2⟩ := run_resL hr h
    have hlen : us.length ≠ 1 := by
      have := h2.1
      rename_i ys
      have hvl : ∀ {vs : List ResultVar} {ys : List AV}, RetL P st vs ys → vs.length = ys.length := fun h => by
        induction h with
        | nil => rfl
        | cons _ _ ih => simp [ih]
      rw [this, ← hvl h]; exact hl
    refine ⟨.tuple us.toArray, ?_, .tup _ us h2.1 h2.2⟩
    simp only [Sem.run_bind, em us h1, Result.andThen_ok, Sem.run_pure]
    rw [dif_neg (by simpa using hlen)]

theorem lk_inits {I : Im} {ρ : Nat → Value} : ∀ (as : List AV) (i : Nat) (t : Nat) (x : AV), lk (inits i as) t = some x → i ≤ t ∧ as[t - i]? = some x
  | [], _, _, _, h => by simp [inits, lk] at h
  | y :: r, i, t, x, h => by
    simp only [inits, lk_cons] at h
    cases hb : i.beq t <;> simp [hb] at h
    · have hne : i ≠ t := beqF.1 hb
      obtain ⟨h1, h2⟩ := lk_inits (I := I) (ρ := ρ) r (i + 1) t x h
      refine ⟨by omega, ?_⟩
      rw [show t - i = (t - (i + 1)) + 1 by omega]
      simpa using h2
    · have : i = t := by simpa using hb
      subst this; subst h
      exact ⟨Nat.le_refl _, by simp⟩

/-- A mark's block is shut: nothing of the function's own lies there. -/
theorem BlkSat.farN {C : Ctx} {g : Gh} {w w' : World} {b k2 : Nat} {B : Blk} (h : BlkSat C g w k2 B) (hm : w.grownBy w' (some b)) (hb : g.O b = none) (hw : C.w0.heap.size ≤ b) (hio : ImOB g w') : BlkSat C g w' k2 B := by
  cases B with
  | box cs E =>
    obtain ⟨b2, vs, h1, h2, h3, h4, h5, h6⟩ := h
    have hlt : b2 < w.heap.size := by
      rcases Nat.lt_or_ge b2 w.heap.size with hl | hl
      · exact hl
      · simp [Array.getElem?_eq_none hl] at h4
    have hne : b2 ≠ b := fun e => by rw [e, hb] at h2; simp at h2
    exact ⟨b2, vs, h1, h2, h3, (hm.block b2 hlt (by simpa using hne)).trans h4, h5, h6⟩
  | row enc l E s =>
    obtain ⟨xs, h1, h2, h3, h4⟩ := h
    refine ⟨xs, h1.kept hm ?_, h2, h3, h4⟩
    cases ho : (g.ρ k2).ownBlock with
    | none => exact .inl rfl
    | some b2 =>
      refine .inr ?_
      intro e
      injection e with e
      subst e
      have := (h4 b2 (by rw [blkOf_own h1]; exact ho)).1
      rw [hb] at this
      simp at this
  | hold vs cs => exact h
  | obj b2 o =>
    obtain ⟨h1, h2, h3⟩ := h
    have hne : b2 ≠ b := fun e => by rw [e, hb] at h2; simp at h2
    exact ⟨(hm.block b2 (heap_lt h1) (by simpa using hne)).trans h1, h2, h3⟩
  | yld j on => exact yld_far h (Im.le_refl _) (fun _ _ _ => rfl) (fun b' e => by injection e with e; subst e; exact .inr ⟨hb, hw⟩) hm h.2.2.2.1 hio
  | dead => trivial

theorem leave_marks {C : Ctx} {P : Program} {fn : Func} {rv : List ResultVar} {r : AV} {R : Ending → World → Prop} (hrv : fn.results = rv.toArray) {st : St} (hret : RetVs P st rv r) {tmps : Array Value}
    (hR : ∀ g w v, Rel C st g { tmps := tmps, defers := [] } w → RV g.I g.ρ r v → R (.returned v) w) : ∀ (D : List Nat) {g : Gh} {w : World} {ds : List Deferred}, ds = D.map mkD → D.Nodup →
    (∀ x, x ∈ D → w.heap[x]? = some (.deferred (some [])) ∧ g.O x = none ∧ C.w0.heap.size ≤ x) → Rel C st g { tmps := tmps, defers := [] } w →
    LeavesInM Fence.wide 0 P fn tmps R ds .returning w
  | [], g, w, ds, hD, _, _, hr => by
    subst hD
    obtain ⟨u, hu1, hu2⟩ := run_results hr hrv hret
    exact ⟨u, hu1, hR g w u hr hu2⟩
  | x :: D, g, w, ds, hD, hnd, hDr, hr => by
    subst hD
    obtain ⟨h1, h2, h3⟩ := hDr x (by simp)
    have hlt : x < w.heap.size := heap_lt h1
    let w' : World := { w with heap := w.heap.setIfInBounds x (.deferred none) }
    have hm : w.grownBy w' (some x) := ⟨rfl, rfl, rfl, by simp [w'], fun k hk hne => by
      have : x ≠ k := fun e => hne (by rw [e])
      simp [w', this]⟩
    refine ⟨by simp, .inl ⟨x, w', rfl, run_takeDeferred h1, ?_⟩⟩
    refine leave_marks hrv hret hR D rfl (List.nodup_cons.1 hnd).2 (fun y hy => ?_) (g := g) ?_
    · obtain ⟨h4, h5, h6⟩ := hDr y (by simp [hy])
      have hlt' : y < w.heap.size := heap_lt h4
      have hne : y ≠ x := fun e => (List.nodup_cons.1 hnd).1 (e ▸ hy)
      exact ⟨(hm.block y hlt' (by simpa using hne)).trans h4, h5, h6⟩
    · have him : ∀ b o u, g.I b o = some u → w'.cell? ⟨b, o, none⟩ = some u ∧ g.O b = none := fun b o u hI => by
        obtain ⟨h4, h5⟩ := hr.sat.im b o u hI
        refine ⟨?_, h5⟩
        have hne : b ≠ x := fun e => by
          subst e
          simp only [World.cell?, h1] at h4
          simp at h4
        rw [World.cell?_of_block (w := w) (a := ⟨b, o, none⟩) (hm.block b (cell_lt h4) (by simpa using hne))]; exact h4
      have hob : ∀ b k, g.O b = some k → b < w'.heap.size := fun b k hO => Nat.lt_of_lt_of_le (hr.sat.ob b k hO) hm.size
      refine ⟨hr.size, Dfs.nil _ _ _, hr.tmps, ⟨him, hob, fun k B hB => (hr.sat.blk k B hB).farN hm h2 h3 ⟨him, hob⟩⟩, ?_⟩
      exact ⟨hr.ext.I, hm.os.trans hr.ext.os, hm.tape.trans hr.ext.tape, hm.output.trans hr.ext.output, Nat.le_trans hr.ext.size hm.size, fun b hb hn ho => by
          have hne : b ≠ x := fun e => by subst e; omega
          obtain ⟨h4, h5⟩ := hr.ext.keep b hb hn ho
          exact ⟨(hm.block b (Nat.lt_of_lt_of_le hb hr.ext.size) (by simpa using hne)).trans h4, h5⟩, hr.ext.own⟩

/-- The context of a function that nobody else looks into meanwhile. -/
abbrev C0 (n d : Nat) (g : Gh) (w : World) : Ctx := ⟨none, n, d, [], 0, fun _ _ _ _ _ => True, g, w⟩

/-- An id that nobody has. -/
theorem fresh_id (O : Owns) (N : Nat) (l : List Nat) (h : ∀ b k, O b = some k → b < N) : ∃ d, (∀ b n, O b ≠ some (d, n)) ∧ d ∉ l := by
  have h1 : ∀ (M : Nat), ∃ d0, ∀ b n y, b < M → O b = some (y, n) → y < d0 := by
    intro M
    induction M with
    | zero => exact ⟨0, fun b n y hb => by omega⟩
    | succ M ih =>
      obtain ⟨d0, hd⟩ := ih
      cases hO : O M with
      | none => exact ⟨d0, fun b n y hb hy => by
          rcases Nat.lt_or_ge b M with hl | hl
          · exact hd b n y hl hy
          · have : b = M := by omega
            subst this; rw [hO] at hy; simp at hy⟩
      | some p => exact ⟨max d0 (p.1 + 1), fun b n y hb hy => by
          rcases Nat.lt_or_ge b M with hl | hl
          · have := hd b n y hl hy; omega
          · have : b = M := by omega
            subst this; rw [hO] at hy; injection hy with hy; subst hy; simp; omega⟩
  have h2 : ∃ d1, ∀ y ∈ l, y < d1 := by
    clear h h1
    induction l with
    | nil => exact ⟨0, fun y hy => by simp at hy⟩
    | cons x r ih =>
      obtain ⟨d1, hd⟩ := ih
      exact ⟨max d1 (x + 1), fun y hy => by
        rcases List.mem_cons.1 hy with rfl | hy
        · omega
        · have := hd y hy; omega⟩
  obtain ⟨d0, hd0⟩ := h1 N
  obtain ⟨d1, hd1⟩ := h2
  refine ⟨max d0 d1, fun b n hO => ?_, fun hm => ?_⟩
  · have := hd0 b n _ (h b _ hO) hO; omega
  · have := hd1 _ hm; omega

/-- How an activation begins. -/
theorem Rel.start {C : Ctx} {I : Im} {O : Owns} {as : List AV} {args : List Value} {m : Nat} {w : World} (hg : C.g0 = ⟨noNames, I, O⟩) (hw : C.w0 = w) (hm : m = C.n) (hlen : as.length ≤ C.n) (him : ImO I O w) (hargs : RVL I noNames as args) :
    Rel C ⟨inits 0 as, []⟩ { ρ := noNames, I := I, O := O } { tmps := args.toArray ++ Array.replicate (m - args.toArray.size) undef, defers := [] } w := by
  have hsz : args.length = as.length := hargs.1
  subst hm
  refine ⟨by simp; omega, Dfs.nil _ _ _, fun t x hx => ?_, ⟨him.1, him.2, fun k B hB => by simp [lk] at hB⟩, ⟨by rw [hg]; exact Im.le_refl _, by rw [hw], by rw [hw], by rw [hw], by rw [hw]; exact Nat.le_refl _, fun _ _ _ _ => ⟨by rw [hw], by rw [hg]⟩, fun b y n _ hy => ⟨n, by rw [hg]; exact hy⟩⟩⟩
  obtain ⟨_, hx'⟩ := lk_inits (I := I) (ρ := noNames) as 0 t x hx
  simp only [Nat.sub_zero] at hx'
  have ht : t < args.length := by rw [hsz]; exact (List.getElem?_eq_some_iff.1 hx').1
  have e : (args.toArray ++ Array.replicate (C.n - args.toArray.size) undef).getD t undef = args[t] := by
    simp [Array.getD_eq_getD_getElem?, Array.getElem?_append, ht]
  rw [e]
  exact hargs.2 t x _ hx' (List.getElem?_eq_getElem ht)

theorem Fn.intro {P : Program} {f : FuncId} {fn : Func} {c : Code} {n : Nat} {as : List AV} {ts : List (Nat × AV)} {rv : List ResultVar} {r : AV} (hc : callOk P f = true) (hf : P.funcs[f]? = some fn) (hb : fn.body = some c) (hn : fn.ntmps = n) (hrv : fn.results = rv.toArray)
    (hnm : r.nm = true) (hts : inits 0 as = ts) (hlen : as.length ≤ n) (h : ∀ g w d, X P (C0 n d g w) c ⟨ts, []⟩ (RetQ P (C0 n d g w) rv r)) : Fn P f as r := by
  refine ⟨hc, hnm, fun g w args him hargs => (callsIn_wide (n := 0)).1 (callsIn_of_wp_marks hf hb trivial ?_)⟩
  subst hts
  obtain ⟨d, hd, -⟩ := fresh_id g.O w.heap.size [] him.2
  have hrel := Rel.start (C := C0 n d ⟨noNames, g.I, g.O⟩ w) (I := g.I) (O := g.O) (m := fn.ntmps) rfl rfl hn hlen him hargs
  refine wpIn_mono (h _ w d _ _ w hrel) ?_
  rintro e a w' ⟨st, g1, hr1, he, st', himp, hret⟩
  obtain ⟨g2, hr2⟩ := himp g1 a w' hr1
  have hfin : LeavesInM Fence.wide 0 P fn a.tmps (fun e w' => ∃ v g', e = Ending.returned v ∧ RV g'.I noNames r v ∧ Add none g w g' w' ∧ ImOB g' w') a.defers .returning w' := by
    obtain ⟨D, hD, hnd, hDr⟩ := hr2.defers
    refine leave_marks hrv hret (fun g3 w3 v hr3 hv => ?_) D hD hnd hDr ⟨hr2.size, Dfs.nil _ _ _, hr2.tmps, hr2.sat, hr2.ext⟩
    have hnk : ∀ b, b < w.heap.size → ¬ (C0 n d ⟨noNames, g.I, g.O⟩ w).okb b := fun b hb hk => by
      rcases hk with hk | ⟨m, hk⟩
      · simp at hk; omega
      · exact hd b m hk
    have hno : ∀ b, ¬ (C0 n d ⟨noNames, g.I, g.O⟩ w).oth b := fun b ⟨y, m, hy, _⟩ => by simp at hy
    refine ⟨v, { ρ := g.ρ, I := g3.I, O := g3.O }, rfl, hv.forget hnm, ⟨hr3.ext.I, fun _ _ => rfl, fun b hlt => ?_, ⟨hr3.ext.os, hr3.ext.tape, hr3.ext.output, hr3.ext.size, fun b hlt => ?_⟩⟩, ⟨hr3.sat.im, hr3.sat.ob⟩⟩
    · exact (hr3.ext.keep b hlt (hnk b hlt) (hno b)).2
    · exact (hr3.ext.keep b hlt (hnk b hlt) (hno b)).1
  rcases he with rfl | rfl <;> exact hfin
end Go.Rse
