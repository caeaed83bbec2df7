/-
  The steps of operations that touch no memory, over the small logic.
-/
import Derived.Test.YteecbmgddacioaaRse1
import Derived.TacticsIn
import Derived.RangeFuncCalls
import Derived.Sort.LoopGhostIn
import Derived.RangeFuncLeaves
namespace Go.Rse
open Go Go.RowKit
set_option linter.unusedVariables false

/-- A constant of the code. -/
def cv : Value → Option AV
  | .int k n => some (.int k n)
  | .bool b => some (.bool b)
  | .string s => some (.str s)
  | .slice none 0 0 => some .nils
  | .nilFunc => some .nilf
  | _ => none
theorem cv_rv {I : Im} {ρ : Nat → Value} {v : Value} {x : AV} (h : cv v = some x) : RV I ρ x v := by
  unfold cv at h
  split at h <;> first
    | (injection h with h; subst h; first | exact .int _ _ | exact .bool _ | exact .str _ | exact .nils | exact .nilf)
    | exact absurd h (by simp)
def cvL : List Value → Option (List AV)
  | [] => some []
  | v :: r => match cv v, cvL r with
    | some x, some xs => some (x :: xs)
    | _, _ => none
theorem cvL_rv {I : Im} {ρ : Nat → Value} : ∀ {vs : List Value} {xs : List AV}, cvL vs = some xs →
    vs.length = xs.length ∧ ∀ (j : Nat) (c : AV) (v : Value), xs[j]? = some c → vs[j]? = some v → RV I ρ c v
  | [], xs, h => by simp [cvL] at h; subst h; simp
  | v :: r, xs, h => by
    simp only [cvL] at h
    split at h <;> try (simp at h; done)
    rename_i x ys h1 h2
    injection h with h; subst h
    obtain ⟨hl, hr⟩ := cvL_rv (I := I) (ρ := ρ) h2
    refine ⟨by simp [hl], fun j c u hc hu => ?_⟩
    cases j with
    | zero => simp at hc hu; subst hc; subst hu; exact cv_rv h1
    | succ j => exact hr j c u (by simpa using hc) (by simpa using hu)
/-- A constant, structs too. -/
def cva : Value → Option AV
  | .agg vs => (cvL vs.toList).map .agg
  | v => cv v
theorem cva_rv {I : Im} {ρ : Nat → Value} {v : Value} {x : AV} (h : cva v = some x) : RV I ρ x v := by
  unfold cva at h
  split at h
  · rename_i vs
    cases hc : cvL vs.toList with
    | none => simp [hc] at h
    | some xs =>
      simp [hc] at h; subst h
      obtain ⟨hl, hr⟩ := cvL_rv (I := I) (ρ := ρ) hc
      have := RV.agg (I := I) (ρ := ρ) xs vs.toList hl hr
      simpa using this
  · exact cv_rv h

/-- What an operand is. -/
def ev (st : St) : Operand → Option AV
  | .tmp t => lk st.t t
  | .const v => cva v
  | .func f => some (.fn f [])
  | .global _ => none
theorem ev_rv {C : Ctx} {st : St} {g : Gh} {a : Act} {w : World} (h : Rel C st g a w) {x : Operand} {y : AV} (he : ev st x = some y) : RV g.I g.ρ y (a.eval x) := by
  cases x with
  | tmp t => exact h.tmps t y he
  | const v => exact cva_rv he
  | func f =>
    simp [ev] at he; subst he
    exact .fn f [] [] rfl (fun j c v hc => by simp at hc)
  | global g => simp [ev] at he

section inv
variable {I : Im} {ρ : Nat → Value} {v : Value}
theorem inv_int {k : IntKind} {n : Int} (h : RV I ρ (.int k n) v) : v = .int k n := by cases h; rfl
theorem inv_bool {b : Bool} (h : RV I ρ (.bool b) v) : v = .bool b := by cases h; rfl
theorem inv_str {s : ByteArray} (h : RV I ρ (.str s) v) : v = .string s := by cases h; rfl
theorem inv_nils (h : RV I ρ .nils v) : v = .slice none 0 0 := by cases h; rfl
theorem inv_nilf (h : RV I ρ .nilf v) : v = .nilFunc := by cases h; rfl
theorem inv_own {k : Nat} (h : RV I ρ (.own k) v) : ρ k = v := by cases h; assumption
theorem inv_agg {cs : List AV} (h : RV I ρ (.agg cs) v) : ∃ vs : List Value, v = .agg vs.toArray ∧ vs.length = cs.length ∧ ∀ (j : Nat) (c : AV) (u : Value), cs[j]? = some c → vs[j]? = some u → RV I ρ c u := by
  cases h; exact ⟨_, rfl, by assumption, by assumption⟩
theorem inv_tup {cs : List AV} (h : RV I ρ (.tup cs) v) : ∃ vs : List Value, v = .tuple vs.toArray ∧ vs.length = cs.length ∧ ∀ (j : Nat) (c : AV) (u : Value), cs[j]? = some c → vs[j]? = some u → RV I ρ c u := by
  cases h; exact ⟨_, rfl, by assumption, by assumption⟩
theorem inv_fn {f : FuncId} {cs : List AV} (h : RV I ρ (.fn f cs) v) : ∃ vs : List Value, v = .func (.func f) #[] vs.toArray ∧ vs.length = cs.length ∧ ∀ (j : Nat) (c : AV) (u : Value), cs[j]? = some c → vs[j]? = some u → RV I ρ c u := by
  cases h; exact ⟨_, rfl, by assumption, by assumption⟩
theorem inv_ptr {k s i j : Nat} (h : RV I ρ (.ptr k s i j) v) : ∃ b, blkOf (ρ k) = some b ∧ v = .pointer (some ⟨b, i * s + j, none⟩) := by
  cases h; exact ⟨_, by assumption, rfl⟩
theorem inv_ept {α : Type} {enc : α → List AV} {x : α} {j : Nat} (h : RV I ρ (.ept enc x j) v) : ∃ (b o : Nat) (vs : Nat → Value), v = .pointer (some ⟨b, o + j, none⟩) ∧
    (∀ j, j < (enc x).length → I b (o + j) = some (vs j)) ∧ ∀ (j : Nat) (cell : AV), (enc x)[j]? = some cell → RV I noNames cell (vs j) := by
  cases h; exact ⟨_, _, _, rfl, by assumption, by assumption⟩
theorem inv_ifb {b : Bool} {x : AV} (h : RV I ρ (.ifb b x) v) (hb : b = true) : RV I ρ x v := by
  cases h; rename_i h; exact h hb
end inv

/-! ### Steps -/

/-- What an operation's run leaves; no panic. -/
def upon1 (P : Program) (dst : Option Tmp) (a : Act) (K : Act → World → Prop) : Result Next → Prop
  | .ok (.value v) w' => K (a.put dst v) w'
  | .ok .skip w' => K (a.put dst undef) w'
  | .ok (.enter f args) w' => Calls P f args w' fun e w'' => ∃ v, e = .returned v ∧ K (a.put dst v) w''
  | .ok (.round l f tmps assign body) w' => RoundIn Fence.wide 0 P l f tmps assign body w' fun e w'' => ∃ v, e = .returned v ∧ K (a.put dst v) w''
  | _ => False
def wp1 (P : Program) (o : Oper) (a : Act) (w : World) (K : Act → World → Prop) : Prop := upon1 P o.dst a K ((execOp a.eval o).run P w)

/-- The frame's fence: none, but for the round that it is. -/
def Ctx.F (C : Ctx) : Fence := match C.rd with
  | none => Fence.wide
  | some l => Fence.wide.inRound l
theorem Ctx.F_fn (C : Ctx) (f : FuncId) : C.F.fn f := by
  unfold Ctx.F; split <;> trivial
theorem Ctx.F_depth (C : Ctx) : C.F.depth = none := by
  unfold Ctx.F; split <;> rfl

theorem Ctx.calls (C : Ctx) {P : Program} {f : FuncId} {args : Array Value} {w : World} {R : Ending → World → Prop} (h : Calls P f args w R) : CallsIn C.F 0 P f args w R := by
  unfold Ctx.F
  split
  · exact callsIn_wide.2 h
  · exact CallsIn.inRound _ (callsIn_wide.2 h)
theorem Ctx.rounds (C : Ctx) {P : Program} {l : Nat} {f : FuncId} {tmps : Array Value} {assign body : Code} {w : World} {R : Ending → World → Prop} (h : RoundIn Fence.wide 0 P l f tmps assign body w R) : RoundIn C.F 0 P l f tmps assign body w R := by
  unfold Ctx.F
  split <;> exact h

theorem wp1_in {C : Ctx} {P : Program} {o : Oper} {a : Act} {w : World} {K : Act → World → Prop} {Q : Exit → Act → World → Prop} (h : wp1 P o a w K) : o.wpIn C.F 0 P a w K Q := by
  refine ⟨fun f _ => C.F_fn f, ?_⟩
  have hd : ∀ c, o.op ≠ .defer c := fun c hc => by
    unfold wp1 at h
    have e : execOp a.eval o = (do pure (.defer (← resolve a.eval c o.type))) := by unfold execOp; rw [hc]
    rw [e] at h
    simp only [Sem.run_bind] at h
    cases hr : (resolve a.eval c o.type).run P w with
    | ok d w' => simp [hr, upon1] at h
    | halt x w' => simp [hr, upon1] at h
  rw [Oper.semAt_eq _ _ _ hd]
  unfold wp1 at h
  generalize (execOp a.eval o).run P w = r at h
  unfold upon1 at h
  split at h
  · exact h
  · exact h
  · refine ⟨fun hx => by rw [C.F_depth] at hx; simp at hx, ?_⟩
    refine CallsIn.mono (C.calls h) ?_
    rintro e w'' ⟨v, rfl, hK⟩
    exact hK
  · refine ⟨fun hx => by rw [C.F_depth] at hx; simp at hx, ?_⟩
    refine RoundIn.mono (C.rounds h) ?_
    rintro e w'' ⟨v, rfl, hK⟩
    exact hK
  · exact h.elim

/-- The operation yields x and leaves all as it is. -/
def Pur (P : Program) (C : Ctx) (op : Op) (ty : TypeId) (st : St) (x : AV) : Prop :=
  ∀ (g : Gh) (a : Act) (w : World) dst pos af gd, Rel C st g a w → ∃ v, (execOp a.eval { dst := dst, op := op, type := ty, pos := pos, after := af, guard := gd }).run P w = .ok (.value v) w ∧ RV g.I g.ρ x v

/-- The operation yields x, memory may have grown, there may be a new block of the function's own. -/
def StepA (P : Program) (C : Ctx) (op : Op) (ty : TypeId) (st : St) (x : AV) (nb : Option (Nat × Blk)) : Prop :=
  ∀ (g : Gh) (a : Act) (w : World) (dst : Option Tmp) pos af gd, Rel C st g a w → ∀ (K : Act → World → Prop),
    (∀ v w' g', Add (nb.map (·.1)) g w g' w' → RV g'.I g'.ρ x v → ImOB g' w' → (∀ k B, nb = some (k, B) → BlkSat C g' w' k B) → K (a.put dst v) w') →
    wp1 P { dst := dst, op := op, type := ty, pos := pos, after := af, guard := gd } a w K

theorem StepA.of_run {P : Program} {C : Ctx} {op : Op} {ty : TypeId} {st : St} {x : AV} {nb : Option (Nat × Blk)}
    (h : ∀ (g : Gh) (a : Act) (w : World) (dst : Option Tmp) pos af gd, Rel C st g a w → ∃ v w' g', (execOp a.eval { dst := dst, op := op, type := ty, pos := pos, after := af, guard := gd }).run P w = .ok (.value v) w' ∧
      Add (nb.map (·.1)) g w g' w' ∧ RV g'.I g'.ρ x v ∧ ImOB g' w' ∧ ∀ k B, nb = some (k, B) → BlkSat C g' w' k B) : StepA P C op ty st x nb :=
  fun g a w dst pos af gd hr K hK => by
    obtain ⟨v, w', g', h1, h2, h3, h4, h5⟩ := h g a w dst pos af gd hr
    unfold wp1
    rw [h1]
    exact hK v w' g' h2 h3 h4 h5

theorem Pur.stepA {P : Program} {C : Ctx} {op : Op} {ty : TypeId} {st : St} {x : AV} (h : Pur P C op ty st x) : StepA P C op ty st x none :=
  StepA.of_run fun g a w dst pos af gd hr => let ⟨v, h1, h2⟩ := h g a w dst pos af gd hr; ⟨v, w, g, h1, Add.refl _ g w, h2, ⟨hr.sat.im, hr.sat.ob⟩, fun _ _ h => by cases h⟩

def lift (C : Ctx) (Q : Exit → St → Prop) : Exit → Act → World → Prop := fun e a w => ∃ st g, Rel C st g a w ∧ Q e st
/-- The operations of a region, in the text's order. -/
def Ex (P : Program) (C : Ctx) (ops : Array Oper) (l : List Oper) (st : St) (Q : Exit → St → Prop) : Prop := ∀ g a w, Rel C st g a w → wpListIn C.F 0 P ops (lift C Q) l a w
/-- A piece of code. -/
def X (P : Program) (C : Ctx) (c : Code) (st : St) (Q : Exit → St → Prop) : Prop := ∀ g a w, Rel C st g a w → c.wpIn C.F 0 P (lift C Q) a w

def addSt (st : St) (d : Option Nat) (x : AV) (nb : Option (Nat × Blk)) : St :=
  { t := match d with | some d => (d, x) :: st.t | none => st.t, h := match nb with | some b => b :: st.h | none => st.h }
def dOk (n : Nat) : Option Nat → Bool
  | some d => d.blt n
  | none => true
def nbOk (st : St) : Option (Nat × Blk) → Bool
  | some b => st.fr b.1
  | none => true

theorem Rel.addSt {C : Ctx} {st : St} {g g' : Gh} {a : Act} {w w' : World} {nb : Option (Nat × Blk)} {d : Option Nat} {x : AV} {v : Value} (h : Rel C st g a w) (ha : Add (nb.map (·.1)) g w g' w')
    (hd : dOk C.n d = true) (hn : nbOk st nb = true) (hx : RV g'.I g'.ρ x v)
    (him : ∀ b o u, g'.I b o = some u → w'.cell? ⟨b, o, none⟩ = some u ∧ g'.O b = none) (hob : ∀ b k, g'.O b = some k → b < w'.heap.size)
    (hB : ∀ k B, nb = some (k, B) → BlkSat C g' w' k B) : Rel C (addSt st d x nb) g' (a.put d v) w' := by
  have h1 := h.add ha (d := d) (fun k hk => by
    cases nb with
    | none => simp at hk
    | some b => simp at hk; subst hk; exact hn) (fun t ht => by subst ht; simpa [dOk] using hd) hx him hob
  cases nb with
  | none => cases d <;> exact h1
  | some b => cases d <;> exact h1.withBlk (hB b.1 b.2 rfl)

theorem Ex.nil {P : Program} {C : Ctx} {ops : Array Oper} {st : St} {Q : Exit → St → Prop} (h : Q .normal st) : Ex P C ops [] st Q := fun g a w hr => ⟨st, g, hr, h⟩

theorem Ex.stepA {P : Program} {C : Ctx} {ops : Array Oper} {st : St} {Q : Exit → St → Prop} {rest : List Oper} {dst : Option Tmp} {op : Op} {ty : TypeId} {pos : String} {af : Array Edge} {x : AV} {nb : Option (Nat × Blk)}
    (hs : StepA P C op ty st x nb) (hd : dOk C.n dst = true) (hn : nbOk st nb = true) (h : Ex P C ops rest (Rse.addSt st dst x nb) Q) :
    Ex P C ops ({ dst := dst, op := op, type := ty, pos := pos, after := af, guard := none } :: rest) st Q := fun g a w hr =>
  wpListIn_plain rfl fun K hK => wp1_in <| hs g a w dst pos af none hr K fun v w' g' h2 h3 h4 h5 => hK _ _ (h g' _ w' (hr.addSt h2 hd hn h3 h4.1 h4.2 h5))

theorem Ex.pur {P : Program} {C : Ctx} {ops : Array Oper} {st : St} {Q : Exit → St → Prop} {rest : List Oper} {d : Nat} {op : Op} {ty : TypeId} {pos : String} {af : Array Edge} {x : AV}
    (hs : Pur P C op ty st x) (hd : d.blt C.n = true) (h : Ex P C ops rest { t := (d, x) :: st.t, h := st.h } Q) :
    Ex P C ops ({ dst := some d, op := op, type := ty, pos := pos, after := af, guard := none } :: rest) st Q :=
  Ex.stepA hs.stepA hd rfl h

/-- A guarded operation: the guard's slot is known as b. -/
theorem Ex.guard {P : Program} {C : Ctx} {ops : Array Oper} {st : St} {Q : Exit → St → Prop} {rest : List Oper} {d : Nat} {op : Op} {ty : TypeId} {pos : String} {af : Array Edge} {x : AV} {i t : Nat} {want b : Bool}
    (hi : (ops[i]?).bind (·.dst) = some t) (hb : lk st.t t = some (.bool b)) (hs : (b == want) = true → StepA P C op ty st x none) (hd : d.blt C.n = true)
    (h : Ex P C ops rest { t := (d, .ifb (b == want) x) :: st.t, h := st.h } Q) :
    Ex P C ops ({ dst := some d, op := op, type := ty, pos := pos, after := af, guard := some (i, want) } :: rest) st Q := fun g a w hr => by
  have hy : yielded ops a.tmps i = some b := by
    have := inv_bool (hr.tmps t _ hb)
    have e : a.tmps[t]? = some (.bool b) := by
      simp only [Array.getD_eq_getD_getElem?] at this
      cases h : a.tmps[t]? with
      | none => rw [h] at this; simp [undef] at this
      | some u => rw [h] at this; simpa using this
    simp [yielded, hi, e]
  unfold wpListIn
  by_cases hw : (b == want) = true
  · have hwant : Region.wanted { dst := some d, op := op, type := ty, pos := pos, after := af, guard := some (i, want) } (yielded ops a.tmps) = true := by
      simp only [Region.wanted, hy]; exact hw
    rw [if_pos hwant]
    exact wp1_in (hs hw g a w (some d) pos af (some (i, want)) hr _ fun v w' g' h2 h3 h4 h5 =>
      h g' _ w' (hr.addSt (d := some d) (nb := none) h2 hd rfl (.ifb _ _ _ fun _ => h3) h4.1 h4.2 h5))
  · have hwant : Region.wanted { dst := some d, op := op, type := ty, pos := pos, after := af, guard := some (i, want) } (yielded ops a.tmps) = false := by
      simp only [Region.wanted, hy]; simpa using hw
    rw [if_neg (by rw [hwant]; simp)]
    exact ⟨fun f _ => C.F_fn f, h g _ w (hr.addSt (d := some d) (nb := none) (Add.refl _ g w) hd rfl (.ifb _ _ _ fun h => absurd h hw) hr.sat.im hr.sat.ob (fun _ _ h => by cases h))⟩

/-! ### Pure operations -/
section pure
variable {P : Program} {C : Ctx} {st : St} {ty : TypeId}

theorem P_move {x : Operand} {y : AV} (h : ev st x = some y) : Pur P C (.move x) ty st y := fun _ _ _ _ _ _ _ hr => ⟨_, rfl, ev_rv hr h⟩
theorem P_assign {x : Operand} {y : AV} (h : ev st x = some y) : Pur P C (.assign x) ty st y := fun _ _ _ _ _ _ _ hr => ⟨_, rfl, ev_rv hr h⟩

theorem P_extract {x : Operand} {i : Nat} {vs : List AV} {y : AV} (h : ev st x = some (.tup vs)) (hi : vs[i]? = some y) : Pur P C (.extract x i) ty st y := fun g a w dst pos af gd hr => by
  obtain ⟨us, e, hl, hu⟩ := inv_tup (ev_rv hr h)
  have hlt : i < us.length := by
    have := (List.getElem?_eq_some_iff.1 hi).1; omega
  have hg : us[i]? = some us[i] := List.getElem?_eq_getElem hlt
  refine ⟨us[i], ?_, hu i y _ hi hg⟩
  simp [execOp, Instr.extract, e, hlt]

theorem P_makeFunc {f : FuncId} {caps : Array Operand} {xs : List AV} (h : caps.toList.mapM (ev st) = some xs) : Pur P C (.makeFunc (.func f) #[] caps) ty st (.fn f xs) := fun g a w dst pos af gd hr => by
  refine ⟨.func (.func f) #[] (caps.map a.eval), by simp [execOp, Instr.makeFunc], ?_⟩
  have key : ∀ (cs : List Operand) (xs : List AV), cs.mapM (ev st) = some xs → (cs.map a.eval).length = xs.length ∧ ∀ (j : Nat) (c : AV) (v : Value), xs[j]? = some c → (cs.map a.eval)[j]? = some v → RV g.I g.ρ c v := by
    intro cs
    induction cs with
    | nil => intro xs h; simp at h; subst h; simp
    | cons c r ih =>
      intro xs h
      simp only [List.mapM_cons] at h
      cases hc : ev st c with
      | none => simp [hc] at h
      | some y =>
        cases hq : r.mapM (ev st) with
        | none => simp [hc, hq] at h
        | some ys =>
          simp [hc, hq] at h; subst h
          obtain ⟨hl, hr'⟩ := ih ys hq
          refine ⟨by simpa using hl, fun j c' v hc' hv => ?_⟩
          cases j with
          | zero => simp at hc' hv; subst hc'; subst hv; exact ev_rv hr hc
          | succ j => exact hr' j c' v (by simpa using hc') (by simpa using hv)
  obtain ⟨hl, hr'⟩ := key _ _ h
  have := RV.fn (I := g.I) (ρ := g.ρ) f xs (caps.toList.map a.eval) hl hr'
  have e : (caps.toList.map a.eval).toArray = caps.map a.eval := by simp [← Array.toList_map]
  rwa [e] at this

theorem P_nilCheck_fn {x : Operand} {f : FuncId} {cs : List AV} (h : ev st x = some (.fn f cs)) : Pur P C (.nilCheck x) ty st (.fn f cs) := fun g a w dst pos af gd hr => by
  have hv := ev_rv hr h
  obtain ⟨us, e, _, _⟩ := inv_fn hv
  exact ⟨_, by simp [execOp, e], e ▸ hv⟩

/-! integers -/
section ints
variable {x y : Operand} {xt yt : TypeId} {k : IntKind} {p q : Int}

theorem run_int2 {op : BinOp} {g : Gh} {a : Act} {w : World} (hr : Rel C st g a w) (hx : ev st x = some (.int k p)) (hy : ev st y = some (.int k q)) (dst : Option Tmp) (pos : String) (af : Array Edge) (gd : Option (Nat × Bool)) (r : Value)
    (h : (binOp op xt (.int k p) (.int k q)).run P w = .ok r w) : (execOp a.eval { dst := dst, op := .binOp op xt x y yt, type := ty, pos := pos, after := af, guard := gd }).run P w = .ok (.value r) w := by
  have ex := inv_int (ev_rv hr hx)
  have ey := inv_int (ev_rv hr hy)
  have hg : (eqGuard op xt x y (.int k p) (.int k q)).run P w = .ok () w := by
    unfold eqGuard; cases op <;> simp
  simp only [execOp, ex, ey, Sem.run_bind, hg, Result.andThen_ok, h, Sem.run_pure]

theorem P_add (hx : ev st x = some (.int k p)) (hy : ev st y = some (.int k q)) (hin : k.wrap (p + q) = p + q) : Pur P C (.binOp .add xt x y yt) ty st (.int k (p + q)) := fun g a w dst pos af gd hr =>
  ⟨_, run_int2 hr hx hy dst pos af gd (.int k (p + q)) (by simp [binOp, Op.intArith, hin]), .int _ _⟩
theorem P_sub (hx : ev st x = some (.int k p)) (hy : ev st y = some (.int k q)) (hin : k.wrap (p - q) = p - q) : Pur P C (.binOp .sub xt x y yt) ty st (.int k (p - q)) := fun g a w dst pos af gd hr =>
  ⟨_, run_int2 hr hx hy dst pos af gd (.int k (p - q)) (by simp [binOp, Op.intArith, hin]), .int _ _⟩
theorem P_mul (hx : ev st x = some (.int k p)) (hy : ev st y = some (.int k q)) (hin : k.wrap (p * q) = p * q) : Pur P C (.binOp .mul xt x y yt) ty st (.int k (p * q)) := fun g a w dst pos af gd hr =>
  ⟨_, run_int2 hr hx hy dst pos af gd (.int k (p * q)) (by simp [binOp, Op.intArith, hin]), .int _ _⟩
theorem P_quo (hx : ev st x = some (.int k p)) (hy : ev st y = some (.int k q)) (h0 : q ≠ 0) (hin : k.wrap (p.tdiv q) = p.tdiv q) : Pur P C (.binOp .quo xt x y yt) ty st (.int k (p.tdiv q)) := fun g a w dst pos af gd hr =>
  ⟨_, run_int2 hr hx hy dst pos af gd (.int k (p.tdiv q)) (by simp [binOp, Op.intDiv, h0, hin]), .int _ _⟩
theorem P_quo' (hx : ev st x = some (.int .i64 p)) (hy : ev st y = some (.int .i64 q)) (h0 : 0 ≤ p) (h1 : p ≤ 9223372036854775807) (h2 : 0 < q) : Pur P C (.binOp .quo xt x y yt) ty st (.int .i64 (p / q)) := fun g a w dst pos af gd hr =>
  ⟨_, run_int2 hr hx hy dst pos af gd (.int .i64 (p / q)) (by simp [binOp, Op.intDiv, show q ≠ 0 by omega, IntWalk.i64_quo p q ⟨h0, h1, by omega⟩]), .int _ _⟩
theorem P_rem (hx : ev st x = some (.int k p)) (hy : ev st y = some (.int k q)) (h0 : q ≠ 0) : Pur P C (.binOp .rem xt x y yt) ty st (.int k (p.tmod q)) := fun g a w dst pos af gd hr =>
  ⟨_, run_int2 hr hx hy dst pos af gd (.int k (p.tmod q)) (by simp [binOp, Op.intDiv, h0]), .int _ _⟩
theorem P_rem' (hx : ev st x = some (.int k p)) (hy : ev st y = some (.int k q)) (h0 : 0 ≤ p) (h2 : 0 < q) : Pur P C (.binOp .rem xt x y yt) ty st (.int k (p % q)) := fun g a w dst pos af gd hr =>
  ⟨_, run_int2 hr hx hy dst pos af gd (.int k (p % q)) (by simp [binOp, Op.intDiv, show q ≠ 0 by omega, IntWalk.rem_in p q h0]), .int _ _⟩
theorem P_eql (hx : ev st x = some (.int k p)) (hy : ev st y = some (.int k q)) : Pur P C (.binOp .eql xt x y yt) ty st (.bool (decide (p = q))) := fun g a w dst pos af gd hr =>
  ⟨_, run_int2 hr hx hy dst pos af gd (.bool (decide (p = q))) (by simp [binOp, Op.intCmp]; rfl), .bool _⟩
theorem P_neq (hx : ev st x = some (.int k p)) (hy : ev st y = some (.int k q)) : Pur P C (.binOp .neq xt x y yt) ty st (.bool (!decide (p = q))) := fun g a w dst pos af gd hr =>
  ⟨_, run_int2 hr hx hy dst pos af gd (.bool (!decide (p = q))) (by simp [binOp, Op.intCmp]; rfl), .bool _⟩
theorem P_lss (hx : ev st x = some (.int k p)) (hy : ev st y = some (.int k q)) : Pur P C (.binOp .lss xt x y yt) ty st (.bool (decide (p < q))) := fun g a w dst pos af gd hr =>
  ⟨_, run_int2 hr hx hy dst pos af gd (.bool (decide (p < q))) (by simp [binOp, Op.intCmp]), .bool _⟩
theorem P_leq (hx : ev st x = some (.int k p)) (hy : ev st y = some (.int k q)) : Pur P C (.binOp .leq xt x y yt) ty st (.bool (decide (p ≤ q))) := fun g a w dst pos af gd hr =>
  ⟨_, run_int2 hr hx hy dst pos af gd (.bool (decide (p ≤ q))) (by simp [binOp, Op.intCmp]), .bool _⟩
theorem P_gtr (hx : ev st x = some (.int k p)) (hy : ev st y = some (.int k q)) : Pur P C (.binOp .gtr xt x y yt) ty st (.bool (decide (q < p))) := fun g a w dst pos af gd hr =>
  ⟨_, run_int2 hr hx hy dst pos af gd (.bool (decide (q < p))) (by simp [binOp, Op.intCmp]), .bool _⟩
theorem P_geq (hx : ev st x = some (.int k p)) (hy : ev st y = some (.int k q)) : Pur P C (.binOp .geq xt x y yt) ty st (.bool (decide (q ≤ p))) := fun g a w dst pos af gd hr =>
  ⟨_, run_int2 hr hx hy dst pos af gd (.bool (decide (q ≤ p))) (by simp [binOp, Op.intCmp]), .bool _⟩
theorem P_neg (hx : ev st x = some (.int k p)) (hin : k.wrap (-p) = -p) : Pur P C (.unOp .neg xt x) ty st (.int k (-p)) := fun g a w dst pos af gd hr => by
  have ex := inv_int (ev_rv hr hx)
  exact ⟨.int k (-p), by simp [execOp, ex, Op.unary, Op.intArith, hin], .int _ _⟩
theorem P_convert {d : TypeId} {k' : IntKind} (hx : ev st x = some (.int k p)) (hd : P.underlying d = some (.int k')) (hs : (P.underlying xt).isSome = true) (hin : k'.wrap p = p) : Pur P C (.convert xt d x) ty st (.int k' p) := fun g a w dst pos af gd hr => by
  have ex := inv_int (ev_rv hr hx)
  obtain ⟨u, hu⟩ := Option.isSome_iff_exists.1 hs
  refine ⟨.int k' p, ?_, .int _ _⟩
  simp [execOp, ex, convert, run_underlying hd, run_underlying hu, Conv.intToInt, hin]
end ints

theorem P_not {x : Operand} {xt : TypeId} {b : Bool} (hx : ev st x = some (.bool b)) : Pur P C (.unOp .not xt x) ty st (.bool (!b)) := fun g a w dst pos af gd hr => by
  have ex := inv_bool (ev_rv hr hx)
  exact ⟨.bool (!b), by simp [execOp, ex, Op.unary], .bool _⟩

/-- a && b -/
theorem P_and {c x : Operand} {b y : Bool} (hc : ev st c = some (.bool b)) (hx : ev st x = some (.ifb (b == true) (.bool y))) : Pur P C (.pick c x (.const (.bool false))) ty st (.bool (b && y)) := fun g a w dst pos af gd hr => by
  have ec := inv_bool (ev_rv hr hc)
  cases b with
  | false =>
    have e0 : a.eval (.const (.bool false)) = .bool false := rfl
    exact ⟨.bool false, by simp [execOp, ec, asBool, e0], .bool _⟩
  | true =>
    have ex := inv_bool (inv_ifb (ev_rv hr hx) rfl)
    exact ⟨.bool y, by simp [execOp, ec, asBool, ex], .bool _⟩
/-- a || b -/
theorem P_or {c x : Operand} {b y : Bool} (hc : ev st c = some (.bool b)) (hx : ev st x = some (.ifb (b == false) (.bool y))) : Pur P C (.pick c (.const (.bool true)) x) ty st (.bool (b || y)) := fun g a w dst pos af gd hr => by
  have ec := inv_bool (ev_rv hr hc)
  cases b with
  | true =>
    have e0 : a.eval (.const (.bool true)) = .bool true := rfl
    exact ⟨.bool true, by simp [execOp, ec, asBool, e0], .bool _⟩
  | false =>
    have ex := inv_bool (inv_ifb (ev_rv hr hx) rfl)
    exact ⟨.bool y, by simp [execOp, ec, asBool, ex], .bool _⟩
end pure

end Go.Rse
