/-
  A region whose operations may come in more than one order: each operation adds what it finds out; the last ones (from m on) come behind all the others.
-/
import Derived.Test.YteecbmgddacioaaRse10
import Derived.OrdersIn
namespace Go.Rse
open Go Go.RowKit
set_option linter.unusedVariables false

def memb (n : Nat) : List Nat → Bool
  | [] => false
  | k :: r => n.beq k || memb n r
theorem memb_iff {n : Nat} : ∀ {l : List Nat}, memb n l = true ↔ n ∈ l
  | [] => by simp [memb]
  | k :: r => by simp [memb, memb_iff (l := r)]

structure Fact : Type 1 where
  i : Nat
  d : Option Nat
  x : AV
  nb : Option (Nat × Blk)
  as : List Nat

def rmK (ks : List Nat) : List (Nat × AV) → List (Nat × AV)
  | [] => []
  | (t, x) :: r => bif memb t ks then rmK ks r else (t, x) :: rmK ks r
theorem lk_rmK {ks : List Nat} {t : Nat} {x : AV} : ∀ {l : List (Nat × AV)}, lk (rmK ks l) t = some x → memb t ks = false ∧ lk l t = some x
  | [], h => by simp [rmK, lk] at h
  | (t', x') :: r, h => by
    simp only [rmK] at h
    cases hm : memb t' ks with
    | true =>
      simp only [hm, cond_true] at h
      obtain ⟨h1, h2⟩ := lk_rmK h
      refine ⟨h1, ?_⟩
      rw [lk_cons]
      have : t'.beq t = false := beqF.2 fun e => by subst e; rw [hm] at h1; simp at h1
      simp [this, h2]
    | false =>
      simp only [hm, cond_false, lk_cons] at h
      rw [lk_cons]
      cases hb : t'.beq t with
      | true =>
        have : t' = t := by simpa using hb
        subst this
        exact ⟨hm, by simpa [hb] using h⟩
      | false =>
        simp only [hb, cond_false] at h ⊢
        exact lk_rmK h
def selT (as : List Nat) (b : List (Nat × AV)) : List Fact → List (Nat × AV)
  | [] => b
  | f :: r => bif memb f.i as then consT f.d f.x (selT as b r) else selT as b r
def consH (nb : Option (Nat × Blk)) (l : List (Nat × Blk)) : List (Nat × Blk) := match nb with | some b => b :: l | none => l
def selH (as : List Nat) (b : List (Nat × Blk)) : List Fact → List (Nat × Blk)
  | [] => b
  | f :: r => bif memb f.i as then consH f.nb (selH as b r) else selH as b r
def stOf (st : St) (hid as : List Nat) (fs : List Fact) : St := ⟨selT as (rmK hid st.t) fs, selH as st.h fs⟩

theorem lk_selT {as : List Nat} {b : List (Nat × AV)} {t : Nat} {x : AV} : ∀ {fs : List Fact}, lk (selT as b fs) t = some x → (∃ f ∈ fs, memb f.i as = true ∧ f.d = some t ∧ f.x = x) ∨ lk b t = some x
  | [], h => .inr h
  | f :: r, h => by
    simp only [selT] at h
    cases hm : memb f.i as with
    | true =>
      simp only [hm, cond_true] at h
      cases hd : f.d with
      | none =>
        simp only [hd, consT] at h
        rcases lk_selT h with ⟨f', h1, h2⟩ | h1
        · exact .inl ⟨f', by simp [h1], h2⟩
        · exact .inr h1
      | some d =>
        simp only [hd, consT, lk_cons] at h
        cases hb : d.beq t with
        | true =>
          have : d = t := by simpa using hb
          subst this
          simp at h
          exact .inl ⟨f, by simp, hm, hd, h⟩
        | false =>
          simp only [hb, cond_false] at h
          rcases lk_selT h with ⟨f', h1, h2⟩ | h1
          · exact .inl ⟨f', by simp [h1], h2⟩
          · exact .inr h1
    | false =>
      simp only [hm, cond_false] at h
      rcases lk_selT h with ⟨f', h1, h2⟩ | h1
      · exact .inl ⟨f', by simp [h1], h2⟩
      · exact .inr h1
theorem lk_selH {as : List Nat} {b : List (Nat × Blk)} {k : Nat} {B : Blk} : ∀ {fs : List Fact}, lk (selH as b fs) k = some B → (∃ f ∈ fs, memb f.i as = true ∧ f.nb = some (k, B)) ∨ lk b k = some B
  | [], h => .inr h
  | f :: r, h => by
    simp only [selH] at h
    cases hm : memb f.i as with
    | true =>
      simp only [hm, cond_true] at h
      cases hd : f.nb with
      | none =>
        simp only [hd, consH] at h
        rcases lk_selH h with ⟨f', h1, h2⟩ | h1
        · exact .inl ⟨f', by simp [h1], h2⟩
        · exact .inr h1
      | some p =>
        obtain ⟨k', B'⟩ := p
        simp only [hd, consH, lk_cons] at h
        cases hb : k'.beq k with
        | true =>
          have : k' = k := by simpa using hb
          subst this
          simp at h
          subst h
          exact .inl ⟨f, by simp, hm, hd⟩
        | false =>
          simp only [hb, cond_false] at h
          rcases lk_selH h with ⟨f', h1, h2⟩ | h1
          · exact .inl ⟨f', by simp [h1], h2⟩
          · exact .inr h1
    | false =>
      simp only [hm, cond_false] at h
      rcases lk_selH h with ⟨f', h1, h2⟩ | h1
      · exact .inl ⟨f', by simp [h1], h2⟩
      · exact .inr h1

/-- Direct edges. -/
def dir (ops : Array Oper) (i : Nat) : List Nat := match ops[i]? with | some o => (o.after.toList.filter (Region.binds .any ·)).map (·.on) | none => []
/-- Every number of as is reached from i by direct edges: from i itself or from one that stands behind it in the list. -/
def ancGo (ops : Array Oper) (i : Nat) : List Nat → Bool
  | [] => true
  | a :: r => (memb a (dir ops i) || r.any fun b => memb a (dir ops b)) && ancGo ops i r
def edgesOk (ops : Array Oper) : Bool := (List.range ops.size).all fun i => (dir ops i).all fun j => j.blt i

def nbFr (nb : Option (Nat × Blk)) (k : Nat) : Bool := match nb with | some (k', B) => !(k'.beq k) && B.fr k | none => true
def pairOk (f f' : Fact) : Bool :=
  (match f.d, f'.d with | some d, some d' => !(d.beq d') | _, _ => true) &&
  (match f.nb with | some (k, _) => f'.x.fr k && nbFr f'.nb k | none => true) &&
  (memb f'.i f.as || match f'.nb with | some (k, _) => f.x.fr k && nbFr f.nb k | none => true)
def okF (st : St) (hid : List Nat) : List Fact → Bool
  | [] => true
  | f :: r => (match f.d with | some d => memb d hid | none => true) && nbOk st f.nb && r.all (pairOk f) && okF st hid r
/-- From m on the order is forced. -/
def forcedGo (ops : Array Oper) (m : Nat) : Nat → Bool
  | 0 => true
  | n + 1 => memb (m + n) (dir ops (m + n + 1)) && forcedGo ops m n
def forced (ops : Array Oper) (m : Nat) (as : List Nat) : Bool :=
  m.ble ops.size && (ops.size.beq m || (ancGo ops m as && (List.range m).all (memb · as) && forcedGo ops m (ops.size - m - 1)))

/-- From m on: m, m + 2, with m + 1 ahead of m or behind it. -/
def forced2 (ops : Array Oper) (m : Nat) (as : List Nat) : Bool :=
  ops.size.beq (m + 3) && ancGo ops m as && (List.range m).all (memb · as) && memb m (dir ops (m + 2)) && memb (m + 1) (dir ops (m + 2))
inductive Chain (P : Program) (C : Ctx) (ops : Array Oper) (st : St) (hid : List Nat) (Q : Exit → St → Prop) : Nat → List Fact → Prop
  | step {i : Nat} {fs : List Fact} {o : Oper} {x : AV} {nb : Option (Nat × Blk)} (as : List Nat) (ho : ops[i]? = some o) (hg : o.guard = none) (ha : ancGo ops i as = true) (hs : StepA P C o.op o.type (stOf st hid as fs) x nb) (hd : dOk C.n o.dst = true)
      (h : Chain P C ops st hid Q (i + 1) (⟨i, o.dst, x, nb, as⟩ :: fs)) : Chain P C ops st hid Q i fs
  | gT {i : Nat} {fs : List Fact} {o : Oper} {x : AV} {nb : Option (Nat × Blk)} {gi t : Nat} {want b : Bool} (as : List Nat) (ho : ops[i]? = some o) (hg : o.guard = some (gi, want)) (ha : ancGo ops i as = true) (hi : (ops[gi]?).bind (·.dst) = some t) (hb : lk (stOf st hid as fs).t t = some (.bool b))
      (hw : (b == want) = true) (hs : StepA P C o.op o.type (stOf st hid as fs) x nb) (hd : dOk C.n o.dst = true) (h : Chain P C ops st hid Q (i + 1) (⟨i, o.dst, x, nb, as⟩ :: fs)) : Chain P C ops st hid Q i fs
  | gF {i : Nat} {fs : List Fact} {o : Oper} {gi t : Nat} {want b : Bool} (as : List Nat) (ho : ops[i]? = some o) (hg : o.guard = some (gi, want)) (ha : ancGo ops i as = true) (hi : (ops[gi]?).bind (·.dst) = some t) (hb : lk (stOf st hid as fs).t t = some (.bool b))
      (hw : (b == want) = false) (hd : dOk C.n o.dst = true) (h : Chain P C ops st hid Q (i + 1) (⟨i, o.dst, .any, none, as⟩ :: fs)) : Chain P C ops st hid Q i fs
  | tail2 {i : Nat} {fs : List Fact} {o1 oe o2 : Oper} {x : AV} (as ase : List Nat) (hl : ops.toList.drop i = [o1, oe, o2]) (hge : oe.guard = none) (hok : okF st hid (⟨i + 1, oe.dst, x, none, ase⟩ :: fs) = true) (hf : forced2 ops i as = true) (hae : ancGo ops (i + 1) ase = true) (hde : dOk C.n oe.dst = true)
      (hse : StepA P C oe.op oe.type (stOf st hid ase fs) x none) (hA : Ex P C ops [o1, o2] (stOf st hid ((i + 1) :: fs.map (·.i)) (⟨i + 1, oe.dst, x, none, ase⟩ :: fs)) Q) (hB : Ex P C ops [o1, oe, o2] (stOf st hid (fs.map (·.i)) fs) Q) : Chain P C ops st hid Q i fs
  | tail {i : Nat} {fs : List Fact} (as : List Nat) (hok : okF st hid fs = true) (hf : forced ops i as = true) (h : Ex P C ops (ops.toList.drop i) (stOf st hid (fs.map (·.i)) fs) Q) : Chain P C ops st hid Q i fs

/-- What a fact stands on. -/
def Good (P : Program) (C : Ctx) (ops : Array Oper) (st : St) (hid : List Nat) (Q : Exit → St → Prop) (f : Fact) (fs0 : List Fact) : Prop :=
  ancGo ops f.i f.as = true ∧ dOk C.n f.d = true ∧ ∀ g a w, Rel C (stOf st hid f.as fs0) g a w → ∀ K : Act → World → Prop,
    (∀ v w' g', Add (f.nb.map (·.1)) g w g' w' → RV g'.I g'.ρ f.x v → ImOB g' w' → (∀ k B, f.nb = some (k, B) → BlkSat C g' w' k B) → K (a.put f.d v) w') → wpOpIn C.F 0 P ops (lift C Q) f.i K a w

theorem Chain.collect {P : Program} {C : Ctx} {ops : Array Oper} {st : St} {hid : List Nat} {Q : Exit → St → Prop} {i : Nat} {fs : List Fact} (h : Chain P C ops st hid Q i fs) (h1 : ∀ j, j < i → ∃ f ∈ fs, f.i = j) (h2 : ∀ f ∈ fs, f.i < i ∧ ∃ fs0, (∀ f' ∈ fs0, f' ∈ fs) ∧ Good P C ops st hid Q f fs0) (hu : ∀ f ∈ fs, ∀ f' ∈ fs, f'.i = f.i → f' = f) :
    ∃ m fs' as, (∀ j, j < m → ∃ f ∈ fs', f.i = j) ∧ (∀ f ∈ fs', f.i < m ∧ ∃ fs0, (∀ f' ∈ fs0, f' ∈ fs') ∧ Good P C ops st hid Q f fs0) ∧ (∀ f ∈ fs', ∀ f' ∈ fs', f'.i = f.i → f' = f) ∧
      ((okF st hid fs' = true ∧ forced ops m as = true ∧ Ex P C ops (ops.toList.drop m) (stOf st hid (fs'.map (·.i)) fs') Q) ∨
       ∃ fe o1 oe o2, ops.toList.drop m = [o1, oe, o2] ∧ fe.i = m + 1 ∧ okF st hid (fe :: fs') = true ∧ forced2 ops m as = true ∧ Good P C ops st hid Q fe fs' ∧
         Ex P C ops [o1, o2] (stOf st hid ((fe :: fs').map (·.i)) (fe :: fs')) Q ∧ Ex P C ops [o1, oe, o2] (stOf st hid (fs'.map (·.i)) fs') Q) := by
  induction h with
  | step as ho hg ha hs hd h ih =>
    rename_i i fs o x nb
    have hu' : ∀ y : Fact, y.i = i → ∀ f ∈ y :: fs, ∀ f' ∈ y :: fs, f'.i = f.i → f' = f := fun y hy f hf f' hf' e => by
      rcases List.mem_cons.1 hf with e1 | hf1
      · rcases List.mem_cons.1 hf' with e2 | hf2
        · rw [e1, e2]
        · have := (h2 f' hf2).1; rw [e, e1, hy] at this; omega
      · rcases List.mem_cons.1 hf' with e2 | hf2
        · have := (h2 f hf1).1; rw [← e, e2, hy] at this; omega
        · exact hu f hf1 f' hf2 e
    refine ih (fun j hj => ?_) (fun f hf => ?_) (hu' _ rfl)
    · by_cases e : j = i
      · exact ⟨_, List.mem_cons_self, e.symm⟩
      · obtain ⟨f, hf, hfi⟩ := h1 j (by omega)
        exact ⟨f, by simp [hf], hfi⟩
    · rcases List.mem_cons.1 hf with rfl | hf
      · refine ⟨Nat.lt_succ_self _, fs, fun f' hf' => by simp [hf'], ha, hd, fun g a w hr K hK => ?_⟩
        have : o = { dst := o.dst, op := o.op, type := o.type, pos := o.pos, after := o.after, guard := o.guard } := rfl
        simp only [wpOpIn, ho]
        rw [if_pos (by simp [Region.wanted, hg])]
        exact wp1_in (hs g a w o.dst o.pos o.after o.guard hr K hK)
      · obtain ⟨h3, fs0, h4, h5⟩ := h2 f hf
        exact ⟨by omega, fs0, fun f' hf' => by simp [h4 f' hf'], h5⟩
  | gT as ho hg ha hi hb hw hs hd h ih =>
    rename_i i fs o x nb gi t want b
    have hu' : ∀ y : Fact, y.i = i → ∀ f ∈ y :: fs, ∀ f' ∈ y :: fs, f'.i = f.i → f' = f := fun y hy f hf f' hf' e => by
      rcases List.mem_cons.1 hf with e1 | hf1
      · rcases List.mem_cons.1 hf' with e2 | hf2
        · rw [e1, e2]
        · have := (h2 f' hf2).1; rw [e, e1, hy] at this; omega
      · rcases List.mem_cons.1 hf' with e2 | hf2
        · have := (h2 f hf1).1; rw [← e, e2, hy] at this; omega
        · exact hu f hf1 f' hf2 e
    refine ih (fun j hj => ?_) (fun f hf => ?_) (hu' _ rfl)
    · by_cases e : j = i
      · exact ⟨_, List.mem_cons_self, e.symm⟩
      · obtain ⟨f, hf, hfi⟩ := h1 j (by omega)
        exact ⟨f, by simp [hf], hfi⟩
    · rcases List.mem_cons.1 hf with rfl | hf
      · refine ⟨Nat.lt_succ_self _, fs, fun f' hf' => by simp [hf'], ha, hd, fun g a w hr K hK => ?_⟩
        have hy : yielded ops a.tmps gi = some b := by
          have := inv_bool (hr.tmps t _ hb)
          have e : a.tmps[t]? = some (.bool b) := by
            simp only [Array.getD_eq_getD_getElem?] at this
            cases h : a.tmps[t]? with
            | none => rw [h] at this; simp [undef] at this
            | some u => rw [h] at this; simpa using this
          simp [yielded, hi, e]
        simp only [wpOpIn, ho]
        rw [if_pos (by simp only [Region.wanted, hg, hy]; simpa using hw)]
        exact wp1_in (hs g a w o.dst o.pos o.after o.guard hr K hK)
      · obtain ⟨h3, fs0, h4, h5⟩ := h2 f hf
        exact ⟨by omega, fs0, fun f' hf' => by simp [h4 f' hf'], h5⟩
  | gF as ho hg ha hi hb hw hd h ih =>
    rename_i i fs o gi t want b
    have hu' : ∀ y : Fact, y.i = i → ∀ f ∈ y :: fs, ∀ f' ∈ y :: fs, f'.i = f.i → f' = f := fun y hy f hf f' hf' e => by
      rcases List.mem_cons.1 hf with e1 | hf1
      · rcases List.mem_cons.1 hf' with e2 | hf2
        · rw [e1, e2]
        · have := (h2 f' hf2).1; rw [e, e1, hy] at this; omega
      · rcases List.mem_cons.1 hf' with e2 | hf2
        · have := (h2 f hf1).1; rw [← e, e2, hy] at this; omega
        · exact hu f hf1 f' hf2 e
    refine ih (fun j hj => ?_) (fun f hf => ?_) (hu' _ rfl)
    · by_cases e : j = i
      · exact ⟨_, List.mem_cons_self, e.symm⟩
      · obtain ⟨f, hf, hfi⟩ := h1 j (by omega)
        exact ⟨f, by simp [hf], hfi⟩
    · rcases List.mem_cons.1 hf with rfl | hf
      · refine ⟨Nat.lt_succ_self _, fs, fun f' hf' => by simp [hf'], ha, hd, fun g a w hr K hK => ?_⟩
        have hy : yielded ops a.tmps gi = some b := by
          have := inv_bool (hr.tmps t _ hb)
          have e : a.tmps[t]? = some (.bool b) := by
            simp only [Array.getD_eq_getD_getElem?] at this
            cases h : a.tmps[t]? with
            | none => rw [h] at this; simp [undef] at this
            | some u => rw [h] at this; simpa using this
          simp [yielded, hi, e]
        simp only [wpOpIn, ho]
        rw [if_neg (by simp only [Region.wanted, hg, hy]; simpa using hw)]
        exact ⟨fun f _ => C.F_fn f, hK undef w g (Add.refl _ g w) (.any _) ⟨hr.sat.im, hr.sat.ob⟩ (fun _ _ h => by cases h)⟩
      · obtain ⟨h3, fs0, h4, h5⟩ := h2 f hf
        exact ⟨by omega, fs0, fun f' hf' => by simp [h4 f' hf'], h5⟩
  | tail as hok hf h => exact ⟨_, _, as, h1, h2, hu, .inl ⟨hok, hf, h⟩⟩
  | tail2 as ase hl hge hok hf hae hde hse hA hB =>
    rename_i i fs o1 oe o2 x
    refine ⟨_, _, as, h1, h2, hu, .inr ⟨_, o1, oe, o2, hl, rfl, hok, hf, ⟨hae, hde, fun g a w hr K hK => ?_⟩, hA, hB⟩⟩
    have ho : ops[i + 1]? = some oe := by
      have : (ops.toList.drop i)[1]? = some oe := by rw [hl]; rfl
      simpa using this
    simp only [wpOpIn, ho]
    rw [if_pos (by simp [Region.wanted, hge])]
    exact wp1_in (hse g a w oe.dst oe.pos oe.after oe.guard hr K hK)

/-- What holds when the operations D have come. -/
structure RelD (C : Ctx) (st : St) (hid : List Nat) (fs : List Fact) (D : Nat → Prop) (g : Gh) (a : Act) (w : World) : Prop where
  size : a.tmps.size = C.n
  defers : Dfs C g a.defers w
  tf : ∀ f ∈ fs, D f.i → ∀ t, f.d = some t → RV g.I g.ρ f.x (a.tmps.getD t undef)
  ts : ∀ t x, memb t hid = false → lk st.t t = some x → RV g.I g.ρ x (a.tmps.getD t undef)
  hf : ∀ f ∈ fs, D f.i → ∀ k B, f.nb = some (k, B) → BlkSat C g w k B
  hs : ∀ k B, lk st.h k = some B → BlkSat C g w k B
  im : ImOB g w
  ext : Ext C g w

theorem RelD.rel {C : Ctx} {st : St} {hid : List Nat} {fs fs0 : List Fact} {D : Nat → Prop} {g : Gh} {a : Act} {w : World} (h : RelD C st hid fs D g a w) {as : List Nat} (h0 : ∀ f ∈ fs0, f ∈ fs) (has : ∀ i, i ∈ as → D i) : Rel C (stOf st hid as fs0) g a w := by
  refine ⟨h.size, h.defers, fun t x hx => ?_, ⟨h.im.1, h.im.2, fun k B hB => ?_⟩, h.ext⟩
  · rcases lk_selT hx with ⟨f, h1, h2, h3, rfl⟩ | h1
    · exact h.tf f (h0 f h1) (has _ (memb_iff.1 h2)) t h3
    · obtain ⟨h2, h3⟩ := lk_rmK h1
      exact h.ts t x h2 h3
  · rcases lk_selH hB with ⟨f, h1, h2, h3⟩ | h1
    · exact h.hf f (h0 f h1) (has _ (memb_iff.1 h2)) k B h3
    · exact h.hs k B h1

theorem okF_mem {st : St} {hid : List Nat} : ∀ {fs : List Fact}, okF st hid fs = true → ∀ f ∈ fs, (∀ d, f.d = some d → memb d hid = true) ∧ nbOk st f.nb = true
  | [], _, f, h => by simp at h
  | f0 :: r, h, f, hf => by
    simp only [okF, Bool.and_eq_true] at h
    rcases List.mem_cons.1 hf with rfl | hf
    · refine ⟨fun d hd => ?_, h.1.1.2⟩
      have := h.1.1.1
      rw [hd] at this
      exact this
    · exact okF_mem h.2 f hf
theorem okF_pair {st : St} {hid : List Nat} : ∀ {fs : List Fact}, okF st hid fs = true → ∀ f ∈ fs, ∀ f' ∈ fs, f.i ≠ f'.i → pairOk f f' = true ∨ pairOk f' f = true
  | [], _, f, h => by simp at h
  | f0 :: r, h, f, hf => fun f' hf' hne => by
    simp only [okF, Bool.and_eq_true] at h
    have hall := List.all_eq_true.1 h.1.2
    rcases List.mem_cons.1 hf with e1 | h1
    · rcases List.mem_cons.1 hf' with e2 | h2
      · exact absurd (by rw [e1, e2]) hne
      · exact .inl (by rw [e1]; exact hall f' h2)
    · rcases List.mem_cons.1 hf' with e2 | h2
      · exact .inr (by rw [e2]; exact hall f h1)
      · exact okF_pair h.2 f h1 f' h2 hne

/-- Two facts' places differ; if f comes behind f', its new name is new to f'. -/
theorem pair_use {f f' : Fact} (h : pairOk f f' = true ∨ pairOk f' f = true) (hn : f.i ∉ f'.as) : (∀ d, f.d = some d → f'.d ≠ some d) ∧ ∀ k B, f.nb = some (k, B) → f'.x.fr k = true ∧ nbFr f'.nb k = true := by
  rcases h with h | h
  · simp only [pairOk, Bool.and_eq_true] at h
    refine ⟨fun d hd hd' => ?_, fun k B hk => ?_⟩
    · have := h.1.1; rw [hd, hd'] at this; simp at this
    · have := h.1.2; rw [hk] at this; simpa using this
  · simp only [pairOk, Bool.and_eq_true] at h
    refine ⟨fun d hd hd' => ?_, fun k B hk => ?_⟩
    · have := h.1.1; rw [hd, hd'] at this; simp at this
    · have := h.2
      rw [hk] at this
      simp only [Bool.or_eq_true, memb_iff] at this
      rcases this with h' | h'
      · exact absurd h' hn
      · simpa using h'

theorem RelD.add {C : Ctx} {st : St} {hid : List Nat} {fs : List Fact} {D D' : Nat → Prop} {g g' : Gh} {a : Act} {w w' : World} (h : RelD C st hid fs D g a w) {f : Fact} {v : Value} (hf : f ∈ fs) (hok : okF st hid fs = true) (hnD : ¬ D f.i)
    (huniq : ∀ f' ∈ fs, f'.i = f.i → f' = f) (hD' : ∀ j, D' j → D j ∨ j = f.i) (hanc : ∀ f' ∈ fs, D f'.i → f.i ∉ f'.as) (hd : dOk C.n f.d = true)
    (ha : Add (f.nb.map (·.1)) g w g' w') (hx : RV g'.I g'.ρ f.x v) (him : ImOB g' w') (hB : ∀ k B, f.nb = some (k, B) → BlkSat C g' w' k B) : RelD C st hid fs D' g' (a.put f.d v) w' := by
  have hm := okF_mem hok f hf
  have hnk : ∀ n, f.nb.map (·.1) = some n → ∃ B, f.nb = some (n, B) := fun n hn => by
    cases hb : f.nb with
    | none => simp [hb] at hn
    | some p => simp [hb] at hn; exact ⟨p.2, by rw [← hn]⟩
  have hstf : ∀ n, f.nb.map (·.1) = some n → st.fr n = true := fun n hn => by
    obtain ⟨B, hb⟩ := hnk n hn
    have := hm.2; rw [hb] at this; exact this
  have hget : ∀ t, f.d ≠ some t → (a.put f.d v).tmps.getD t undef = a.tmps.getD t undef := fun t ht => by
    cases hfd : f.d with
    | none => rfl
    | some d =>
      rw [getD_put (by rw [h.size]; rw [hfd] at hd; simpa [dOk] using hd), if_neg (fun e => ht (by rw [hfd, e]))]
  refine ⟨?_, ?_, fun f' hf' hDf t ht => ?_, fun t x hh hx' => ?_, fun f' hf' hDf k B hk => ?_, fun k B hk => ?_, him, h.ext.add ha⟩
  · cases hfd : f.d <;> simp [Act.put, h.size]
  · have := h.defers.add ha
    cases hfd : f.d <;> exact this
  · by_cases e : f'.i = f.i
    · obtain rfl := huniq f' hf' e
      rw [ht, getD_put (by rw [h.size]; rw [ht] at hd; simpa [dOk] using hd), if_pos rfl]
      exact hx
    · have hDD : D f'.i := (hD' _ hDf).resolve_right e
      obtain ⟨p1, p2⟩ := pair_use (okF_pair hok f hf f' hf' (fun e' => e e'.symm)) (hanc f' hf' hDD)
      rw [hget t (fun e' => p1 t e' ht)]
      exact ((h.tf f' hf' hDD t ht).renameOpt (nk := f.nb.map (·.1)) (fun n hn => by obtain ⟨B, hb⟩ := hnk n hn; exact (p2 n B hb).1) ha.ρ).mono ha.I
  · have : f.d ≠ some t := fun e => by have := hm.1 t e; rw [hh] at this; simp at this
    rw [hget t this]
    exact ((h.ts t x hh hx').renameOpt (nk := f.nb.map (·.1)) (fun n hn => frT_lk (by have := hstf n hn; simp [St.fr] at this; exact this.1) hx') ha.ρ).mono ha.I
  · by_cases e : f'.i = f.i
    · obtain rfl := huniq f' hf' e
      exact hB k B hk
    · have hDD : D f'.i := (hD' _ hDf).resolve_right e
      obtain ⟨p1, p2⟩ := pair_use (okF_pair hok f hf f' hf' (fun e' => e e'.symm)) (hanc f' hf' hDD)
      refine (h.hf f' hf' hDD k B hk).add ha (fun hn => ?_) (fun n hn => ?_) h.ext.size him
      · obtain ⟨B', hb⟩ := hnk k hn
        have := (p2 k B' hb).2
        rw [hk] at this; simp [nbFr] at this
      · obtain ⟨B', hb⟩ := hnk n hn
        have := (p2 n B' hb).2
        rw [hk] at this; simp only [nbFr, Bool.and_eq_true] at this
        exact this.2
  · refine (h.hs k B hk).add ha (fun hn => ?_) (fun n hn => ?_) h.ext.size him
    · have := hstf k hn
      simp [St.fr] at this
      exact (frH_lk this.2 hk).2 rfl
    · have := hstf n hn
      simp [St.fr] at this
      exact (frH_lk this.2 hk).1

/-! ### The orders -/
theorem ready_iff {ops : Array Oper} {listed : Array Bool} {i : Nat} : i ∈ Region.ready .any ops listed ↔ i < ops.size ∧ listed.getD i true = false ∧ ∀ j ∈ dir ops i, listed.getD j false = true := by
  simp only [Region.ready, List.mem_filter, List.mem_range, Bool.and_eq_true, Bool.not_eq_true']
  constructor
  · rintro ⟨h1, h2, h3⟩
    refine ⟨h1, h2, fun j hj => ?_⟩
    have hi : ops[i]? = some ops[i] := Array.getElem?_eq_getElem h1
    simp only [dir, hi, List.mem_map, List.mem_filter] at hj
    obtain ⟨e, ⟨he, hb⟩, rfl⟩ := hj
    simp only [hi, Option.map_some, Option.getD_some, Array.all_eq_true_iff_forall_mem] at h3
    have := h3 e (by simpa using he)
    simpa [hb] using this
  · rintro ⟨h1, h2, h3⟩
    refine ⟨h1, h2, ?_⟩
    have hi : ops[i]? = some ops[i] := Array.getElem?_eq_getElem h1
    simp only [hi, Option.map_some, Option.getD_some, Array.all_eq_true_iff_forall_mem]
    intro e he
    cases hb : Region.binds .any e with
    | false => rfl
    | true =>
      have := h3 e.on (by simp only [dir, hi, List.mem_map, List.mem_filter]; exact ⟨e, ⟨by simpa using he, hb⟩, rfl⟩)
      simp [this]

theorem dir_size {ops : Array Oper} {i : Nat} (h : ops.size ≤ i) : dir ops i = [] := by simp [dir, h]

/-- D is closed under direct edges. -/
def Closed (ops : Array Oper) (listed : Array Bool) : Prop := ∀ i, i < ops.size → listed.getD i false = true → ∀ j ∈ dir ops i, listed.getD j false = true
theorem anc_listed {ops : Array Oper} {listed : Array Bool} {i : Nat} (hc : Closed ops listed) (hi : ∀ j ∈ dir ops i, listed.getD j false = true) : ∀ {as : List Nat}, ancGo ops i as = true → ∀ a ∈ as, listed.getD a false = true
  | [], _, a, h => by simp at h
  | b :: r, h, a, ha => by
    simp only [ancGo, Bool.and_eq_true, Bool.or_eq_true] at h
    have ih := anc_listed hc hi h.2
    rcases List.mem_cons.1 ha with rfl | ha
    · rcases h.1 with h1 | h1
      · exact hi a (memb_iff.1 h1)
      · obtain ⟨c, hcr, hcm⟩ := List.any_eq_true.1 h1
        have hcl := ih c hcr
        rcases Nat.lt_or_ge c ops.size with hl | hl
        · exact hc c hl hcl a (memb_iff.1 hcm)
        · rw [dir_size hl] at hcm; simp [memb] at hcm
    · exact ih a ha

theorem forcedGo_use {ops : Array Oper} {m : Nat} : ∀ {n : Nat}, forcedGo ops m n = true → ∀ k, m < k → k ≤ m + n → (k - 1) ∈ dir ops k
  | 0, _, k, h1, h2 => by omega
  | n + 1, h, k, h1, h2 => by
    simp only [forcedGo, Bool.and_eq_true] at h
    by_cases e : k = m + n + 1
    · subst e; simpa using memb_iff.1 h.1
    · exact forcedGo_use h.2 k h1 (by omega)

/-- How many are not listed. -/
theorem getD_set {l : Array Bool} {i j : Nat} (h : i < l.size) : (l.setIfInBounds i true).getD j false = if i = j then true else l.getD j false := by
  simp only [Array.getD_eq_getD_getElem?, Array.getElem?_setIfInBounds]
  split
  · rename_i e; subst e; simp
  · rfl
theorem getD_tf {l : Array Bool} {i : Nat} (h : i < l.size) : l.getD i true = l.getD i false := by
  simp [Array.getD_eq_getD_getElem?, h]

/-- The tail: from k on one operation behind the other. -/
theorem tail_any {F : Fence} {P : Program} {ops : Array Oper} {Q : Exit → Act → World → Prop} {m : Nat} (he : edgesOk ops = true) (hf : ∀ k, m < k → k < ops.size → (k - 1) ∈ dir ops k) : ∀ (n k : Nat) (listed : Array Bool) (a : Act) (w : World), m ≤ k → k + n = ops.size → listed.size = ops.size →
    (∀ j, j < ops.size → (listed.getD j false = true ↔ j < k)) → wpListIn F 0 P ops Q (ops.toList.drop k) a w → wpAnyIn F 0 P .any ops Q n listed a w
  | 0, k, listed, a, w, hmk, hn, hsz, hl, h => by
    have hr : Region.ready .any ops listed = [] := List.eq_nil_iff_forall_not_mem.2 fun i hi => by
      obtain ⟨h1, h2, _⟩ := ready_iff.1 hi
      rw [getD_tf (by omega)] at h2
      have := (hl i h1).2 (by omega)
      rw [this] at h2; simp at h2
    refine ⟨hr, ?_⟩
    rw [List.drop_of_length_le (by simp; omega)] at h
    exact h
  | n + 1, k, listed, a, w, hmk, hn, hsz, hl, h => by
    have hk : k < ops.size := by omega
    have hdir : ∀ i, i < ops.size → ∀ j ∈ dir ops i, j < i := fun i hi j hj => by
      have := List.all_eq_true.1 (List.all_eq_true.1 he i (by simpa using hi)) j hj
      simpa using this
    have hready : ∀ i, i ∈ Region.ready .any ops listed ↔ i = k := fun i => by
      rw [ready_iff]
      constructor
      · rintro ⟨h1, h2, h3⟩
        rw [getD_tf (by omega)] at h2
        have hik : ¬ i < k := fun hlt => by rw [(hl i h1).2 hlt] at h2; simp at h2
        by_cases e : i = k
        · exact e
        · exfalso
          have := h3 _ (hf i (by omega) h1)
          have := (hl (i - 1) (by omega)).1 this
          omega
      · rintro rfl
        refine ⟨hk, ?_, fun j hj => (hl j (by have := hdir _ hk j hj; omega)).2 (hdir _ hk j hj)⟩
        rw [getD_tf (by omega)]
        cases hb : listed.getD i false with
        | false => rfl
        | true => have := (hl i hk).1 hb; omega
    refine ⟨fun e => ?_, fun i hi => ?_⟩
    · have : k ∈ Region.ready .any ops listed := (hready k).2 rfl
      rw [e] at this; simp at this
    · obtain rfl := (hready i).1 hi
      have ho : ops[i]? = some ops[i] := Array.getElem?_eq_getElem hk
      rw [List.drop_eq_getElem_cons (by simpa using hk)] at h
      have ih := fun a w => tail_any (F := F) (P := P) (Q := Q) he hf n (i + 1) (listed.setIfInBounds i true) a w (by omega) (by omega) (by simpa using hsz) (fun j hj => by
        rw [getD_set (by omega)]
        split
        · rename_i e; subst e; simp
        · rename_i e; rw [hl j hj]; omega)
      simp only [wpOpIn, ho]
      simp only [wpListIn] at h
      simp only [Array.getElem_toList] at h
      split
      · rename_i hw; rw [if_pos hw] at h
        exact Oper.wpIn_mono ih h
      · rename_i hw; rw [if_neg hw] at h
        exact ⟨h.1, ih _ _ h.2⟩

theorem Ex.wpl {P : Program} {C : Ctx} {ops : Array Oper} {l : List Oper} {st : St} {Q : Exit → St → Prop} (h : Ex P C ops l st Q) {g : Gh} {a : Act} {w : World} (hr : Rel C st g a w) : wpListIn C.F 0 P ops (lift C Q) l a w := h g a w hr

theorem chain_any {P : Program} {C : Ctx} {ops : Array Oper} {st : St} {hid : List Nat} {Q : Exit → St → Prop} {m : Nat} {fs : List Fact} {as : List Nat} (he : edgesOk ops = true) (h1 : ∀ j, j < m → ∃ f ∈ fs, f.i = j) (h2 : ∀ f ∈ fs, f.i < m ∧ ∃ fs0, (∀ f' ∈ fs0, f' ∈ fs) ∧ Good P C ops st hid Q f fs0)
    (huniq : ∀ f ∈ fs, ∀ f' ∈ fs, f'.i = f.i → f' = f) (hok : okF st hid fs = true) (hf : forced ops m as = true) (hex : Ex P C ops (ops.toList.drop m) (stOf st hid (fs.map (·.i)) fs) Q) : ∀ (n : Nat) (listed : Array Bool) (c : Nat) (g : Gh) (a : Act) (w : World), listed.size = ops.size → n = c + (ops.size - m) →
    c = ((List.range m).filter fun j => !listed.getD j false).length → (∀ j, m ≤ j → j < ops.size → listed.getD j false = false) → Closed ops listed → RelD C st hid fs (fun j => listed.getD j false = true) g a w → wpAnyIn C.F 0 P .any ops (lift C Q) n listed a w := by
  have hmle : m ≤ ops.size := by
    simp only [forced, Bool.and_eq_true] at hf; simpa using hf.1
  have hdir : ∀ i, i < ops.size → ∀ j ∈ dir ops i, j < i := fun i hi j hj => by
    have := List.all_eq_true.1 (List.all_eq_true.1 he i (by simpa using hi)) j hj
    simpa using this
  have hforce : m < ops.size → ancGo ops m as = true ∧ (∀ j, j < m → j ∈ as) ∧ ∀ k, m < k → k < ops.size → (k - 1) ∈ dir ops k := fun hlt => by
    simp only [forced, Bool.and_eq_true, Bool.or_eq_true] at hf
    rcases hf.2 with h | h
    · have : ops.size = m := by simpa using h
      omega
    · refine ⟨h.1.1, fun j hj => memb_iff.1 (List.all_eq_true.1 h.1.2 j (by simpa using hj)), fun k hk1 hk2 => forcedGo_use h.2 k hk1 (by omega)⟩
  intro n
  induction n with
  | zero =>
    intro listed c g a w hsz hn hc hun hcl hr
    have hm : m = ops.size := by omega
    have hall : ∀ j, j < m → listed.getD j false = true := fun j hj => by
      have h0 : ((List.range m).filter fun j => !listed.getD j false) = [] := List.eq_nil_of_length_eq_zero (by omega)
      have := List.filter_eq_nil_iff.1 h0 j (by simpa using hj)
      simpa using this
    refine tail_any (m := m) he (fun k hk1 hk2 => by omega) 0 m listed a w (Nat.le_refl _) (by omega) hsz (fun j hj => ⟨fun _ => by omega, fun h => hall j h⟩) (hex.wpl (hr.rel (fun f hf => hf) fun i hi => ?_))
    obtain ⟨f, hf', rfl⟩ := List.mem_map.1 hi
    exact hall _ (h2 f hf').1
  | succ n ih =>
    intro listed c g a w hsz hn hc hun hcl hr
    by_cases hc0 : c = 0
    · have hall : ∀ j, j < m → listed.getD j false = true := fun j hj => by
        have h0 : ((List.range m).filter fun j => !listed.getD j false) = [] := List.eq_nil_of_length_eq_zero (by omega)
        have := List.filter_eq_nil_iff.1 h0 j (by simpa using hj)
        simpa using this
      have hlt : m < ops.size := by omega
      refine tail_any (m := m) he (hforce hlt).2.2 (n + 1) m listed a w (Nat.le_refl _) (by omega) hsz (fun j hj => ⟨fun h => ?_, fun h => hall j h⟩) (hex.wpl (hr.rel (fun f hf => hf) fun i hi => ?_))
      · rcases Nat.lt_or_ge j m with hjm | hjm
        · exact hjm
        · have := hun j hjm hj; rw [h] at this; simp at this
      · obtain ⟨f, hf', rfl⟩ := List.mem_map.1 hi
        exact hall _ (h2 f hf').1
    · -- some of the first m are left
      have hex1 : ∃ j, j < m ∧ listed.getD j false = false := by
        have hne : ((List.range m).filter fun j => !listed.getD j false) ≠ [] := fun e => hc0 (by rw [hc, e]; rfl)
        obtain ⟨j, hj⟩ := List.exists_mem_of_ne_nil _ hne
        simp only [List.mem_filter, List.mem_range, Bool.not_eq_true'] at hj
        exact ⟨j, hj.1, hj.2⟩
      have hlow : ∀ i, i ∈ Region.ready .any ops listed → i < m := fun i hi => by
        obtain ⟨r1, r2, r3⟩ := ready_iff.1 hi
        rcases Nat.lt_or_ge i m with hl | hl
        · exact hl
        · exfalso
          obtain ⟨j, hj1, hj2⟩ := hex1
          obtain ⟨f1, f2, f3⟩ := hforce (by omega)
          by_cases e : i = m
          · subst e
            have := anc_listed hcl r3 f1 j (f2 j hj1)
            rw [this] at hj2; simp at hj2
          · have := r3 _ (f3 i (by omega) r1)
            rw [hun (i - 1) (by omega) (by omega)] at this; simp at this
      have hsome : Region.ready .any ops listed ≠ [] := by
        -- the least one that is left
        have key : ∀ k, (∃ j, j < k ∧ j < m ∧ listed.getD j false = false) → ∃ j, j < m ∧ listed.getD j false = false ∧ ∀ i, i < j → listed.getD i false = true := by
          intro k
          induction k with
          | zero => rintro ⟨j, h, _⟩; omega
          | succ k ihk =>
            rintro ⟨j, h1, h2, h3⟩
            by_cases hex2 : ∃ j, j < k ∧ j < m ∧ listed.getD j false = false
            · exact ihk hex2
            · refine ⟨j, h2, h3, fun i hi => ?_⟩
              cases hb : listed.getD i false with
              | true => rfl
              | false => exact absurd ⟨i, by omega, by omega, hb⟩ hex2
        obtain ⟨j0, hj0, hj1⟩ := hex1
        obtain ⟨j, hj2, hj3, hj4⟩ := key m ⟨j0, hj0, hj0, hj1⟩
        have : j ∈ Region.ready .any ops listed := ready_iff.2 ⟨by omega, by rw [getD_tf (by omega)]; exact hj3, fun i hi => hj4 i (hdir j (by omega) i hi)⟩
        intro e; rw [e] at this; simp at this
      refine ⟨fun e => absurd e hsome, fun i hi => ?_⟩
      have him := hlow i hi
      obtain ⟨r1, r2, r3⟩ := ready_iff.1 hi
      rw [getD_tf (by omega)] at r2
      obtain ⟨f, hfm, hfi⟩ := h1 i him
      subst hfi
      obtain ⟨_, fs0, hsub, ga, gd, gk⟩ := h2 f hfm
      have hanc := anc_listed hcl r3 ga
      refine gk g a w (hr.rel hsub hanc) _ fun v w' g' k1 k2 k3 k4 => ?_
      refine ih (listed.setIfInBounds f.i true) (c - 1) g' _ w' (by simpa using hsz) (by omega) ?_ (fun j hj1 hj2 => ?_) (fun k hk1 hk2 j hj => ?_) (hr.add hfm hok (by rw [r2]; simp) (huniq f hfm) (fun j hj => ?_) (fun f' hf' hD hin => ?_) gd k1 k2 k3 k4)
      · have e : ((List.range m).filter fun j => !(listed.setIfInBounds f.i true).getD j false) = ((List.range m).filter fun j => !listed.getD j false).filter (fun j => !(j == f.i)) := by
          rw [List.filter_filter]
          refine List.filter_congr fun j hj => ?_
          rw [getD_set (by omega)]
          by_cases e : f.i = j
          · subst e; simp
          · have : (j == f.i) = false := by simpa using fun h => e h.symm
            simp [e, this]
        rw [e]
        have hnd : ((List.range m).filter fun j => !listed.getD j false).Nodup := List.nodup_range.filter _
        have hin : f.i ∈ ((List.range m).filter fun j => !listed.getD j false) := List.mem_filter.2 ⟨List.mem_range.2 him, by rw [r2]; rfl⟩
        have h3 := List.length_erase_of_mem hin
        rw [hnd.erase_eq_filter] at h3
        have e2 : (fun j => !(j == f.i)) = fun j => j != f.i := rfl
        rw [e2, h3, ← hc]
      · rw [getD_set (by omega), if_neg (by omega)]
        exact hun j hj1 hj2
      · rw [getD_set (by omega)] at hk2 ⊢
        split
        · rfl
        · split at hk2
          · rename_i e; subst e; exact r3 j hj
          · exact hcl k hk1 hk2 j hj
      · rw [getD_set (by omega)] at hj
        split at hj
        · rename_i e; exact .inr e.symm
        · exact .inl hj
      · -- a listed one does not hang on f
        obtain ⟨q1, fs1, _, qa, _, _⟩ := h2 f' hf'
        have h3 := anc_listed hcl (hcl f'.i (by omega) hD) qa f.i hin
        rw [h3] at r2; simp at r2

/-- The rest, one behind the other. -/
def SeqOk (ops : Array Oper) : List Nat → Prop
  | [] => True
  | x :: r => x < ops.size ∧ x ∉ r ∧ (∀ j ∈ dir ops x, j < ops.size ∧ j ∉ r ∧ j ≠ x) ∧ (∀ y ∈ r, ∃ j ∈ dir ops y, j ∈ x :: r) ∧ SeqOk ops r

theorem step_any {F : Fence} {P : Program} {ops : Array Oper} {Q : Exit → Act → World → Prop} {x : Nat} {o : Oper} {rest : List Oper} {K : Act → World → Prop} {a : Act} {w : World} (ho : ops[x]? = some o) (h : wpListIn F 0 P ops Q (o :: rest) a w) (hK : ∀ a w, wpListIn F 0 P ops Q rest a w → K a w) : wpOpIn F 0 P ops Q x K a w := by
  simp only [wpOpIn, ho]
  simp only [wpListIn] at h
  split
  · rename_i hw; rw [if_pos hw] at h
    exact Oper.wpIn_mono hK h
  · rename_i hw; rw [if_neg hw] at h
    exact ⟨h.1, hK _ _ h.2⟩

theorem seq_any {F : Fence} {P : Program} {ops : Array Oper} {Q : Exit → Act → World → Prop} : ∀ (L : List Nat) (os : List Oper) (listed : Array Bool) (a : Act) (w : World), listed.size = ops.size → (∀ j, j < ops.size → (listed.getD j false = false ↔ j ∈ L)) → SeqOk ops L → os.map some = L.map (ops[·]?) →
    wpListIn F 0 P ops Q os a w → wpAnyIn F 0 P .any ops Q L.length listed a w
  | [], os, listed, a, w, hsz, hl, _, hos, h => by
    have hr : Region.ready .any ops listed = [] := List.eq_nil_iff_forall_not_mem.2 fun i hi => by
      obtain ⟨h1, h2, _⟩ := ready_iff.1 hi
      rw [getD_tf (by omega)] at h2
      have := (hl i h1).1 h2
      simp at this
    cases os with
    | nil => exact ⟨hr, h⟩
    | cons _ _ => simp at hos
  | x :: r, os, listed, a, w, hsz, hl, hok, hos, h => by
    obtain ⟨k1, k2, k3, k4, k5⟩ := hok
    have hready : ∀ i, i ∈ Region.ready .any ops listed ↔ i = x := fun i => by
      rw [ready_iff]
      constructor
      · rintro ⟨h1, h2, h3⟩
        rw [getD_tf (by omega)] at h2
        rcases List.mem_cons.1 ((hl i h1).1 h2) with e | hm
        · exact e
        · obtain ⟨j, hj1, hj2⟩ := k4 i hm
          have h4 := h3 j hj1
          have hjs : j < ops.size := by
            rcases Nat.lt_or_ge j ops.size with hlt | hge
            · exact hlt
            · simp [Array.getD_eq_getD_getElem?, Array.getElem?_eq_none (show listed.size ≤ j by omega)] at h4
          rw [(hl j hjs).2 hj2] at h4; simp at h4
      · rintro rfl
        refine ⟨k1, by rw [getD_tf (by omega)]; exact (hl i k1).2 (by simp), fun j hj => ?_⟩
        cases hb : listed.getD j false with
        | true => rfl
        | false =>
          exfalso
          obtain ⟨q1, q2, q3⟩ := k3 j hj
          rcases List.mem_cons.1 ((hl j q1).1 hb) with e | hm
          · exact q3 e
          · exact q2 hm
    have ho : ops[x]? = some ops[x] := Array.getElem?_eq_getElem k1
    cases os with
    | nil => simp at hos
    | cons o rest =>
      simp only [List.map_cons, List.cons.injEq] at hos
      refine ⟨fun e => ?_, fun i hi => ?_⟩
      · have : x ∈ Region.ready .any ops listed := (hready x).2 rfl
        rw [e] at this; simp at this
      · obtain rfl := (hready i).1 hi
        refine step_any hos.1.symm h fun a' w' h' => seq_any r rest (listed.setIfInBounds i true) a' w' (by simpa using hsz) (fun j hj => ?_) k5 hos.2 h'
        rw [getD_set (by omega)]
        split
        · rename_i e; subst e; simp [k2]
        · rename_i e
          rw [hl j hj]
          simp [show j ≠ i from fun h => e h.symm]

theorem chain_any2 {P : Program} {C : Ctx} {ops : Array Oper} {st : St} {hid : List Nat} {Q : Exit → St → Prop} {m : Nat} {fs : List Fact} {fe : Fact} {o1 oe o2 : Oper} {as : List Nat} (he : edgesOk ops = true) (h1 : ∀ j, j < m → ∃ f ∈ fs, f.i = j) (h2 : ∀ f ∈ fs, f.i < m ∧ ∃ fs0, (∀ f' ∈ fs0, f' ∈ fs) ∧ Good P C ops st hid Q f fs0)
    (huniq : ∀ f ∈ fs, ∀ f' ∈ fs, f'.i = f.i → f' = f) (hl3 : ops.toList.drop m = [o1, oe, o2]) (hfe : fe.i = m + 1) (hok : okF st hid (fe :: fs) = true) (hf : forced2 ops m as = true) (hge : Good P C ops st hid Q fe fs)
    (hA : Ex P C ops [o1, o2] (stOf st hid ((fe :: fs).map (·.i)) (fe :: fs)) Q) (hB : Ex P C ops [o1, oe, o2] (stOf st hid (fs.map (·.i)) fs) Q) :
    ∀ (n : Nat) (listed : Array Bool) (c : Nat) (g : Gh) (a : Act) (w : World), listed.size = ops.size → n = c + 2 →
    c = ((List.range (m + 2)).filter fun j => !(j == m) && !listed.getD j false).length → listed.getD m false = false → listed.getD (m + 2) false = false → Closed ops listed → RelD C st hid (fe :: fs) (fun j => listed.getD j false = true) g a w → wpAnyIn C.F 0 P .any ops (lift C Q) n listed a w := by
  simp only [forced2, Bool.and_eq_true] at hf
  obtain ⟨⟨⟨⟨f1, f2⟩, f3⟩, f4⟩, f5⟩ := hf
  have hsz3 : ops.size = m + 3 := by simpa using f1
  have hdir : ∀ i, i < ops.size → ∀ j ∈ dir ops i, j < i := fun i hi j hj => by
    have := List.all_eq_true.1 (List.all_eq_true.1 he i (by simpa using hi)) j hj
    simpa using this
  have f3' : ∀ j, j < m → j ∈ as := fun j hj => memb_iff.1 (List.all_eq_true.1 f3 j (by simpa using hj))
  have g1 : ops[m]? = some o1 := by have : (ops.toList.drop m)[0]? = some o1 := by rw [hl3]; rfl
                                    simpa using this
  have g2 : ops[m + 1]? = some oe := by have : (ops.toList.drop m)[1]? = some oe := by rw [hl3]; rfl
                                        simpa using this
  have g3 : ops[m + 2]? = some o2 := by have : (ops.toList.drop m)[2]? = some o2 := by rw [hl3]; rfl
                                        simpa using this
  have hfacts : ∀ f ∈ fe :: fs, f.i ≠ m ∧ f.i < m + 2 ∧ ∃ fs0, (∀ f' ∈ fs0, f' ∈ fe :: fs) ∧ Good P C ops st hid Q f fs0 := fun f hfm => by
    rcases List.mem_cons.1 hfm with rfl | hfm
    · exact ⟨by omega, by omega, fs, fun f' hf' => by simp [hf'], hge⟩
    · obtain ⟨q1, fs0, q2, q3⟩ := h2 f hfm
      exact ⟨by omega, by omega, fs0, fun f' hf' => by simp [q2 f' hf'], q3⟩
  have huniq2 : ∀ f ∈ fe :: fs, ∀ f' ∈ fe :: fs, f'.i = f.i → f' = f := fun f hfm f' hfm' e => by
    rcases List.mem_cons.1 hfm with e1 | hfm1
    · rcases List.mem_cons.1 hfm' with e2 | hfm2
      · rw [e1, e2]
      · have := (h2 f' hfm2).1; rw [e, e1, hfe] at this; omega
    · rcases List.mem_cons.1 hfm' with e2 | hfm2
      · have := (h2 f hfm1).1; rw [← e, e2, hfe] at this; omega
      · exact huniq f hfm1 f' hfm2 e
  intro n
  induction n with
  | zero => intro listed c g a w hsz hn; omega
  | succ n ih =>
    intro listed c g a w hsz hn hc hm0 hm2 hcl hr
    have hsome : Region.ready .any ops listed ≠ [] := by
      have key : ∀ k, (∃ j, j < k ∧ j < ops.size ∧ listed.getD j false = false) → ∃ j, j < ops.size ∧ listed.getD j false = false ∧ ∀ i, i < j → listed.getD i false = true := by
        intro k
        induction k with
        | zero => rintro ⟨j, h, _⟩; omega
        | succ k ihk =>
          rintro ⟨j, h1, h2, h3⟩
          by_cases hex2 : ∃ j, j < k ∧ j < ops.size ∧ listed.getD j false = false
          · exact ihk hex2
          · refine ⟨j, h2, h3, fun i hi => ?_⟩
            cases hb : listed.getD i false with
            | true => rfl
            | false => exact absurd ⟨i, by omega, by omega, hb⟩ hex2
      obtain ⟨j, hj2, hj3, hj4⟩ := key (m + 1) ⟨m, by omega, by omega, hm0⟩
      have : j ∈ Region.ready .any ops listed := ready_iff.2 ⟨hj2, by rw [getD_tf (by omega)]; exact hj3, fun i hi => hj4 i (hdir j hj2 i hi)⟩
      intro e; rw [e] at this; simp at this
    refine ⟨fun e => absurd e hsome, fun i hi => ?_⟩
    obtain ⟨r1, r2, r3⟩ := ready_iff.1 hi
    rw [getD_tf (by omega)] at r2
    by_cases him : i = m
    · subst him
      have hall : ∀ j, j < i → listed.getD j false = true := fun j hj => anc_listed hcl r3 f2 j (f3' j hj)
      cases hle : listed.getD (i + 1) false with
      | true =>
        have hc0 : c = 0 := by
          rw [hc]
          rw [List.filter_eq_nil_iff.2 (fun j hj => ?_)]
          · rfl
          · have hj := List.mem_range.1 hj
            by_cases e : j = i
            · subst e; simp
            · by_cases e2 : j = i + 1
              · subst e2; simp [hle]
              · simp [hall j (by omega)]
        have hn2 : n = 1 := by omega
        subst hn2
        have hrel := hr.rel (fs0 := fe :: fs) (as := (fe :: fs).map (·.i)) (fun f hf => hf) (fun j hj => by
          obtain ⟨f, hf', rfl⟩ := List.mem_map.1 hj
          rcases List.mem_cons.1 hf' with rfl | hf'
          · rw [hfe]; exact hle
          · exact hall _ (h2 f hf').1)
        refine step_any g1 (hA.wpl hrel) fun a' w' h' => seq_any [i + 2] [o2] _ a' w' (by simpa using hsz) (fun j hj => ?_) ⟨by omega, by simp, fun j hj => ⟨by have := hdir _ (by omega) j hj; omega, by simp, by have := hdir _ (by omega) j hj; omega⟩, fun y hy => by simp at hy, trivial⟩ (by simp [g3]) h'
        rw [getD_set (by omega)]
        split
        · rename_i e; subst e; simp
        · rename_i e
          simp only [List.mem_singleton]
          constructor
          · intro hj0
            by_cases e2 : j = i + 1
            · subst e2; rw [hle] at hj0; simp at hj0
            · rcases Nat.lt_or_ge j i with hl | hl
              · rw [hall j hl] at hj0; simp at hj0
              · omega
          · rintro rfl; exact hm2
      | false =>
        have hc1 : c = 1 := by
          rw [hc]
          have : ((List.range (i + 2)).filter fun j => !(j == i) && !listed.getD j false) = [i + 1] := by
            rw [List.range_succ, List.range_succ, List.filter_append, List.filter_append]
            rw [List.filter_eq_nil_iff.2 (fun j hj => ?_)]
            · simp only [List.filter_cons, List.filter_nil, hle, beq_self_eq_true, Bool.not_true, Bool.false_and, show (i + 1 == i) = false by simp, Bool.not_false, Bool.and_self, if_true, List.nil_append]
              rfl
            · have hj := List.mem_range.1 hj
              simp [hall j hj]
          rw [this]; rfl
        have hn2 : n = 2 := by omega
        subst hn2
        have hrel := hr.rel (fs0 := fs) (as := fs.map (·.i)) (fun f hf => by simp [hf]) (fun j hj => by
          obtain ⟨f, hf', rfl⟩ := List.mem_map.1 hj
          exact hall _ (h2 f hf').1)
        refine step_any g1 (hB.wpl hrel) fun a' w' h' => seq_any [i + 1, i + 2] [oe, o2] _ a' w' (by simpa using hsz) (fun j hj => ?_)
          ⟨by omega, by simp, fun j hj => ⟨by have := hdir _ (by omega) j hj; omega, by simp; have := hdir _ (by omega) j hj; omega, by have := hdir _ (by omega) j hj; omega⟩, fun y hy => by simp at hy; subst hy; exact ⟨i + 1, memb_iff.1 f5, by simp⟩,
            by omega, by simp, fun j hj => ⟨by have := hdir _ (by omega) j hj; omega, by simp, by have := hdir _ (by omega) j hj; omega⟩, fun y hy => by simp at hy, trivial⟩ (by simp [g2, g3]) h'
        rw [getD_set (by omega)]
        split
        · rename_i e; subst e; simp
        · rename_i e
          simp only [List.mem_cons, List.not_mem_nil, or_false]
          constructor
          · intro hj0
            rcases Nat.lt_or_ge j i with hl | hl
            · rw [hall j hl] at hj0; simp at hj0
            · omega
          · rintro (rfl | rfl)
            · exact hle
            · exact hm2
    · have hi2 : i < m + 2 := by
        rcases Nat.lt_or_ge i (m + 2) with hl | hl
        · exact hl
        · exfalso
          have : i = m + 2 := by omega
          subst this
          rw [r3 m (memb_iff.1 f4)] at hm0; simp at hm0
      obtain ⟨f, hfm, hfi⟩ : ∃ f ∈ fe :: fs, f.i = i := by
        by_cases e : i = m + 1
        · exact ⟨fe, by simp, by rw [hfe, e]⟩
        · obtain ⟨f, hf1, hf2⟩ := h1 i (by omega)
          exact ⟨f, by simp [hf1], hf2⟩
      subst hfi
      obtain ⟨_, _, fs0, hsub, ga, gd, gk⟩ := hfacts f hfm
      have hanc := anc_listed hcl r3 ga
      refine gk g a w (hr.rel hsub hanc) _ fun v w' g' k1 k2 k3 k4 => ?_
      have e : ((List.range (m + 2)).filter fun j => !(j == m) && !(listed.setIfInBounds f.i true).getD j false) = ((List.range (m + 2)).filter fun j => !(j == m) && !listed.getD j false).filter (fun j => !(j == f.i)) := by
        rw [List.filter_filter]
        refine List.filter_congr fun j hj => ?_
        rw [getD_set (by omega)]
        by_cases e : f.i = j
        · subst e; simp
        · have : (j == f.i) = false := by simpa using fun h => e h.symm
          simp [e, this]
      have hnd : ((List.range (m + 2)).filter fun j => !(j == m) && !listed.getD j false).Nodup := List.nodup_range.filter _
      have hin : f.i ∈ ((List.range (m + 2)).filter fun j => !(j == m) && !listed.getD j false) := List.mem_filter.2 ⟨List.mem_range.2 hi2, by simp [r2, him]⟩
      have h3 := List.length_erase_of_mem hin
      rw [hnd.erase_eq_filter] at h3
      have hpos : 0 < c := by rw [hc]; exact List.length_pos_of_mem hin
      refine ih (listed.setIfInBounds f.i true) (c - 1) g' _ w' (by simpa using hsz) (by omega) ?_ ?_ ?_ (fun k hk1 hk2 j hj => ?_) (hr.add hfm hok (by rw [r2]; simp) (huniq2 f hfm) (fun j hj => ?_) (fun f' hf' hD hin => ?_) gd k1 k2 k3 k4)
      · rw [e]
        have e2 : (fun j => !(j == f.i)) = fun j => j != f.i := rfl
        rw [e2, h3, ← hc]
      · rw [getD_set (by omega), if_neg him]; exact hm0
      · rw [getD_set (by omega), if_neg (by omega)]; exact hm2
      · rw [getD_set (by omega)] at hk2 ⊢
        split
        · rfl
        · split at hk2
          · rename_i e; subst e; exact r3 j hj
          · exact hcl k hk1 hk2 j hj
      · rw [getD_set (by omega)] at hj
        split at hj
        · rename_i e; exact .inr e.symm
        · exact .inl hj
      · obtain ⟨_, q1, fs1, _, qa, _, _⟩ := hfacts f' hf'
        have h3 := anc_listed hcl (hcl f'.i (by omega) hD) qa f.i hin
        rw [h3] at r2; simp at r2

theorem X.draw {P : Program} {C : Ctx} {id : Nat} {l : List Oper} {st : St} {Q : Exit → St → Prop} (hid : List Nat) (hm : P.follows .mixedOrders = true) (he : edgesOk l.toArray = true) (h : Chain P C l.toArray st hid Q 0 []) : X P C (.region id l.toArray true) st Q := fun g a w hr => by
  obtain ⟨m, fs, as, h1, h2, hu, htl⟩ := h.collect (fun j hj => by omega) (fun f hf => by simp at hf) (fun f hf => by simp at hf)
  refine wpIn_region_any hm ?_
  have hr' : Rel C st g a w.drew := hr.add (nk := none) (d := none) (x := .any) (v := .nilIface) ⟨Im.le_refl _, fun _ _ => rfl, fun _ _ => rfl, Grow.drew w⟩ (fun k h => by simp at h) (fun t h => by simp at h) (.any _) hr.sat.im hr.sat.ob
  have hz : ∀ j, (Array.replicate l.toArray.size false).getD j false = false := fun j => by
    simp only [Array.getD_eq_getD_getElem?, Array.getElem?_replicate]
    split <;> rfl
  have hrd : ∀ fs' : List Fact, RelD C st hid fs' (fun j => (Array.replicate l.toArray.size false).getD j false = true) g a w.drew := fun fs' =>
    ⟨hr'.size, hr'.defers, fun f _ hD => by rw [hz] at hD; simp at hD, fun t x _ hx => hr'.tmps t x hx, fun f _ hD => by rw [hz] at hD; simp at hD, hr'.sat.blk, ⟨hr'.sat.im, hr'.sat.ob⟩, hr'.ext⟩
  rcases htl with ⟨hok, hf, hex⟩ | ⟨fe, o1, oe, o2, hl3, hfe, hok, hf, hge, hA, hB⟩
  · have hmle : m ≤ l.toArray.size := by
      simp only [forced, Bool.and_eq_true] at hf; simpa using hf.1
    refine chain_any he h1 h2 hu hok hf hex l.toArray.size (Array.replicate l.toArray.size false) m g a w.drew (by simp) (by omega) ?_ (fun j _ _ => hz j) (fun i _ hi => by rw [hz] at hi; simp at hi) (hrd fs)
    have : ((List.range m).filter fun j => !(Array.replicate l.toArray.size false).getD j false) = List.range m := List.filter_eq_self.2 fun j _ => by rw [hz]; rfl
    rw [this]; simp
  · have hsz3 : l.toArray.size = m + 3 := by
      simp only [forced2, Bool.and_eq_true] at hf; simpa using hf.1.1.1.1
    refine chain_any2 he h1 h2 hu hl3 hfe hok hf hge hA hB l.toArray.size (Array.replicate l.toArray.size false) (m + 1) g a w.drew (by simp) (by omega) ?_ (hz _) (hz _) (fun i _ hi => by rw [hz] at hi; simp at hi) (hrd (fe :: fs))
    have : ((List.range (m + 2)).filter fun j => !(j == m) && !(Array.replicate l.toArray.size false).getD j false) = List.range m ++ [m + 1] := by
      rw [List.range_succ, List.range_succ, List.filter_append, List.filter_append, List.filter_eq_self.2 (fun j hj => by have := List.mem_range.1 hj; rw [hz]; simp; omega)]
      simp only [List.filter_cons, List.filter_nil, hz, beq_self_eq_true, Bool.not_true, Bool.false_and, show (m + 1 == m) = false by simp, Bool.not_false, Bool.and_self, if_true, List.append_nil, Bool.false_eq_true, if_false]
    rw [this]; simp
end Go.Rse
