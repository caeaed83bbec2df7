/-
  The logic: parts Rse24, Rse25, Rse26, Rse27.
-/
import Derived.Test.YteecbmgddacioaaGreatRse20
import Derived.Laws.OwnMore
namespace Go.Rse
open Go Go.RowKit
set_option linter.unusedVariables false
set_option linter.unusedSimpArgs false
section
variable {P : Program} {C : Ctx} {st st' : St} {ty : TypeId}
theorem StepA.toM {dst : Option Tmp} {op : Op} {x : AV} {nb : Option (Nat × Blk)} (hs : StepA P C op ty st x nb) (hd : dOk C.n dst = true) (hn : nbOk st nb = true) : StepM P C op ty dst st (Rse.addSt st dst x nb) := fun g a w pos af gd hr K hK =>
  hs g a w dst pos af gd hr K fun v w' g' h2 h3 h4 h5 => hK _ _ g' (hr.addSt h2 hd hn h3 h4.1 h4.2 h5)
theorem StepM.imp {dst : Option Tmp} {op : Op} {st1 : St} (hs : StepM P C op ty dst st st1) (hi : Imp C st1 st') : StepM P C op ty dst st st' := fun g a w pos af gd hr K hK =>
  hs g a w pos af gd hr K fun a' w' g' h' => let ⟨g2, h2⟩ := hi g' a' w' h'; hK a' w' g2 h2
def Step1 (P : Program) (C : Ctx) (ops : Array Oper) (i : Nat) (st st' : St) : Prop := ∃ o, ops[i]? = some o ∧ o.guard = none ∧ StepM P C o.op o.type o.dst st st'
theorem Step1.mk {ops : Array Oper} {i : Nat} {dst : Option Tmp} {op : Op} {pos : String} {af : Array Edge} (ho : ops[i]? = some { dst := dst, op := op, type := ty, pos := pos, after := af, guard := none }) (hs : StepM P C op ty dst st st') : Step1 P C ops i st st' := ⟨_, ho, rfl, hs⟩
def HAll (P : Program) (C : Ctx) (ops : Array Oper) (sts : List St) : List (Nat × Nat × Nat) → Prop
  | [] => True
  | (p, i, q) :: r => (∃ s s', sts[p]? = some s ∧ sts[q]? = some s' ∧ Step1 P C ops i s s') ∧ HAll P C ops sts r
theorem HAll.get {ops : Array Oper} {sts : List St} : ∀ {es : List (Nat × Nat × Nat)}, HAll P C ops sts es → ∀ {p i q : Nat}, (p, i, q) ∈ es → ∃ s s', sts[p]? = some s ∧ sts[q]? = some s' ∧ Step1 P C ops i s s'
  | (p', i', q') :: r, h, p, i, q, hm => by
    rcases List.mem_cons.1 hm with e | hm
    · injection e with e1 e2; injection e2 with e2 e3; subst e1; subst e2; subst e3; exact h.1
    · exact HAll.get h.2 hm
/-- Every set of operations that may have come has its entry, every next operation its edge. -/
def cover (ops : Array Oper) (ds : List (List Bool)) (es : List (Nat × Nat × Nat)) : Bool :=
  (List.range ds.length).all fun p => match ds[p]? with
    | none => false
    | some l => (l.length == ops.size) && (l.all id || (!(Region.ready .any ops l.toArray).isEmpty && (Region.ready .any ops l.toArray).all fun i => es.any fun e => e.1 == p && (e.2.1 == i && ds[e.2.2]? == some (l.set i true))))
def nFalse (l : List Bool) : Nat := (l.filter fun b => !b).length
theorem nFalse_set : ∀ {l : List Bool} {i : Nat}, l[i]? = some false → nFalse l = nFalse (l.set i true) + 1
  | b :: l, 0, h => by simp at h; subst h; simp [nFalse]
  | b :: l, i + 1, h => by
    have := nFalse_set (l := l) (i := i) (by simpa using h)
    unfold nFalse at *
    cases b <;> simp [List.filter_cons] at * <;> omega
theorem nFalse_zero : ∀ {l : List Bool}, nFalse l = 0 → l.all id = true
  | [], _ => rfl
  | b :: l, h => by
    unfold nFalse at h
    cases b
    · simp [List.filter_cons] at h
    · simp only [List.filter_cons, Bool.not_true, Bool.false_eq_true, if_false] at h
      simpa using nFalse_zero (l := l) h
theorem drawN {ops : Array Oper} {Q : Exit → St → Prop} {sts : List St} {ds : List (List Bool)} {es : List (Nat × Nat × Nat)} (hc : cover ops ds es = true) (hs : HAll P C ops sts es) (hlen : ds.length = sts.length) (hend : ∀ (p : Nat) l s, ds[p]? = some l → l.all id = true → sts[p]? = some s → Q .normal s) :
    ∀ (n p : Nat) (l : List Bool) (s : St) (g : Gh) (a : Act) (w : World), ds[p]? = some l → sts[p]? = some s → nFalse l = n → Rel C s g a w → wpAnyIn C.F 0 P .any ops (lift C Q) n l.toArray a w := by
  have hcov : ∀ p l, ds[p]? = some l → l.length = ops.size ∧ (l.all id = true ∨ (Region.ready .any ops l.toArray ≠ [] ∧ ∀ i ∈ Region.ready .any ops l.toArray, ∃ q, (p, i, q) ∈ es ∧ ds[q]? = some (l.set i true))) := fun p l hp => by
    have h1 := List.all_eq_true.1 hc p (by simpa using (List.getElem?_eq_some_iff.1 hp).1)
    rw [hp] at h1
    simp only [Bool.and_eq_true, beq_iff_eq, Bool.or_eq_true, Bool.not_eq_true'] at h1
    refine ⟨h1.1, ?_⟩
    rcases h1.2 with h | ⟨h2, h3⟩
    · exact .inl h
    · refine .inr ⟨fun e => by rw [e] at h2; simp at h2, fun i hi => ?_⟩
      have h4 := List.all_eq_true.1 h3 i hi
      obtain ⟨⟨p', i', q⟩, hm, h5⟩ := List.any_eq_true.1 h4
      simp only [Bool.and_eq_true, beq_iff_eq] at h5
      obtain ⟨e1, e2, e3⟩ := h5
      subst e1; subst e2
      exact ⟨q, hm, e3⟩
  intro n
  induction n with
  | zero =>
    intro p l s g a w hp hsp hn hr
    have hall := nFalse_zero hn
    refine ⟨List.eq_nil_iff_forall_not_mem.2 fun i hi => ?_, s, g, hr, hend p l s hp hall hsp⟩
    obtain ⟨h1, h2, _⟩ := ready_iff.1 hi
    have hlt : i < l.length := by rw [(hcov p l hp).1]; exact h1
    have h3 := List.all_eq_true.1 hall _ (List.getElem_mem hlt)
    simp [Array.getD_eq_getD_getElem?, hlt] at h2 h3
    rw [h3] at h2; cases h2
  | succ n ih =>
    intro p l s g a w hp hsp hn hr
    obtain ⟨hl, hor⟩ := hcov p l hp
    have hnot : ¬ l.all id = true := fun h => by
      have : nFalse l = 0 := by
        unfold nFalse
        rw [List.filter_eq_nil_iff.2 (fun b hb => by have := List.all_eq_true.1 h b hb; simpa using this)]; rfl
      omega
    rcases hor with h | ⟨hne, hrd⟩
    · exact absurd h hnot
    · refine ⟨fun e => absurd e hne, fun i hi => ?_⟩
      obtain ⟨q, hm, hq⟩ := hrd i hi
      obtain ⟨s1, s2, h1, h2, o, ho, hg, hst⟩ := hs.get hm
      rw [hsp] at h1; injection h1 with h1; subst h1
      obtain ⟨r1, r2, _⟩ := ready_iff.1 hi
      have hlt : i < l.length := by rw [hl]; exact r1
      have hif : l[i]? = some false := by
        simp [Array.getD_eq_getD_getElem?, hlt] at r2
        rw [List.getElem?_eq_getElem hlt, r2]
      simp only [wpOpIn, ho]
      obtain ⟨dst, op, ty, pos, af, gd⟩ := o
      simp only at hg; subst hg
      have hw : Region.wanted { dst := dst, op := op, type := ty, pos := pos, after := af, guard := none } (yielded ops a.tmps) = true := rfl
      rw [if_pos hw]
      refine wp1_in (hst g a w pos af none hr _ fun a' w' g' h' => ?_)
      have e : l.toArray.setIfInBounds i true = (l.set i true).toArray := by simp
      rw [e]
      exact ih q (l.set i true) s2 g' a' w' hq h2 (by have := nFalse_set hif; omega) h'
/-- A drawn region, order by order. -/
theorem X.drawN {rid : Nat} {l : List Oper} {Q : Exit → St → Prop} (sts : List St) (ds : List (List Bool)) (es : List (Nat × Nat × Nat)) (hm : P.follows .mixedOrders = true) {s0 : St} (h0 : ds[0]? = some (List.replicate l.length false)) (hs0 : sts[0]? = some s0) (hi : Imp C st s0) (hc : cover l.toArray ds es = true) (hlen : ds.length = sts.length)
    (hs : HAll P C l.toArray sts es) (hend : ∀ (p : Nat) d s, ds[p]? = some d → d.all id = true → sts[p]? = some s → Q .normal s) : X P C (.region rid l.toArray true) st Q := fun g a w hr => by
  refine wpIn_region_any hm ?_
  obtain ⟨g1, hr1⟩ := hi g a w hr
  have hr' : Rel C s0 g1 a w.drew := hr1.add (nk := none) (d := none) (x := .any) (v := .nilIface) ⟨Im.le_refl _, fun _ _ => rfl, fun _ _ => rfl, Grow.drew w⟩ (fun k h => by simp at h) (fun t h => by simp at h) (.any _) hr1.sat.im hr1.sat.ob
  have h := Rse.drawN hc hs hlen hend (nFalse (List.replicate l.length false)) 0 _ s0 g1 a w.drew h0 hs0 rfl hr'
  have e1 : nFalse (List.replicate l.length false) = l.toArray.size := by simp [nFalse]
  have e2 : (List.replicate l.length false).toArray = Array.replicate l.toArray.size false := by simp
  rw [e1, e2] at h
  exact h
end
end Go.Rse
namespace Go.Rse
open Go Go.RowKit
set_option linter.unusedVariables false
set_option linter.unusedSimpArgs false
section
variable {P : Program} {C : Ctx} {st : St} {ty : TypeId}
theorem A_makeSlice {α : Type} {enc : α → List AV} (z' : α) {t E : TypeId} {z : Value} {bytes n k : Nat} {x y : Operand} {kl kc : IntKind} {p q : Int} (ht : slOk P t E = true) (hi : TyInfo P E z 1 bytes) (hzc : z.cells = #[z]) (hby : bytes ≤ 1024) (hx : ev st x = some (.int kl p)) (hy : ev st y = some (.int kc q)) (hp : p = (n : Int)) (hq : q = (n : Int)) (hn : n ≤ 1000000)
    (hs : ∀ x, (enc x).length = 1) (hzr : ∀ (I : Im) (j : Nat) c, (enc z')[j]? = some c → RV I noNames c z) : StepA P C (.makeSlice t x y) ty st (.own k) (some (k, .row enc (List.replicate n z') E 1)) :=
  StepA.of_run fun g a w dst pos af gd hr => by
    subst hp; subst hq
    obtain ⟨i, hi1, hi2, hi3, hi4, hi5⟩ := hi
    have ex := inv_int (ev_rv hr hx)
    have ey := inv_int (ev_rv hr hy)
    have hcap : n ≤ maxLen := by simp only [maxLen]; omega
    have hb : i.bytes * n ≤ 281474976710656 := by
      rw [hi4]
      calc bytes * n ≤ 1024 * 1000000 := Nat.mul_le_mul hby hn
        _ ≤ 281474976710656 := by decide
    have hbz : ((i.bytes : Int) * (n : Int)) ≤ 281474976710656 := by
      have : ((i.bytes * n : Nat) : Int) ≤ 281474976710656 := by omega
      rwa [Int.natCast_mul] at this
    have h1 := run_make (P := P) w t E i z (slOk_under ht) hi1 hi2 kl kc n n (by omega) (Int.le_refl _) hbz (by omega)
    simp only [Int.toNat_natCast] at h1
    have ecs : (madeCells z.cells (n * i.size)).toList = List.replicate n z := by
      rw [hzc, hi3, Nat.mul_one]; exact toList_madeCells_one z n
    have hsl : ∀ (i : Nat) x, (List.replicate n z')[i]? = some x → (enc x).length = 1 := fun i x _ => hs x
    refine ⟨.slice (some ⟨w.heap.size, 0, none⟩) n n, _, g.nw C.d w.heap.size k (.slice (some ⟨w.heap.size, 0, none⟩) n n), ?_, Add.nw (Grow.alloc _ (.cells (madeCells z.cells (n * i.size)) E)) C.d k _, .own k _ _ _ (by simp [Gh.nw]), ImOB.nw ⟨hr.sat.im, hr.sat.ob⟩ (Grow.alloc _ _) (by simp) C.d k _, fun k' B hB => ?_⟩
    · simp only [execOp, ex, ey, Sem.run_bind, h1, Result.andThen_ok, Sem.run_pure]
    · injection hB with hB; injection hB with e1 e2; subst e1; subst e2
      refine ⟨List.replicate n z, ?_, hsl, fun j x q c v hx hc hv => ?_, fun b hb => ?_⟩
      · simp only [Gh.nw, if_true]
        refine ⟨by simp, .inr ⟨w.heap.size, n, madeCells z.cells (n * i.size), by simp, Nat.zero_le _, heap_alloc_new w _, by simp, hcap, by simp [hi3, madeCells], ?_⟩⟩
        rw [ecs]; simp
      · rw [List.getElem?_replicate] at hx
        split at hx
        · injection hx with hx; subst hx
          have hvz : v = z := by
            rw [List.getElem?_replicate] at hv
            split at hv
            · injection hv with hv; exact hv.symm
            · simp at hv
          rw [hvz]; exact hzr _ q c hc
        · simp at hx
      · simp only [Gh.nw, if_true, blkOf] at hb
        injection hb with hb; subst hb
        exact ⟨by simp [Gh.nw], .inl hr.ext.size⟩
/-- The nil slice in a box, as an empty row of one's own. -/
theorem Imp.mkrowB {α : Type} (enc : α → List AV) (E s b k E0 : Nat) (ht : lk st.h b = some (.box [.nils] E0)) (hf : st.fr k = true) : Imp C st { t := st.t, h := (b, .box [.own k] E0) :: (k, .row enc [] E s) :: st.h } := fun g a w hr => by
  have hbk : b ≠ k := fun e => by
    subst e
    simp [St.fr] at hf
    exact (frH_lk hf.2 ht).2 rfl
  obtain ⟨b1, vs, e1, e2, e3, e4, e5, e6⟩ := hr.sat.blk b _ ht
  have ha : Add (some k) g w { ρ := fun n => if n = k then .slice none 0 0 else g.ρ n, I := g.I, O := g.O } w := ⟨Im.le_refl _, fun n hn => by
    have : n ≠ k := fun e => hn (by rw [e])
    simp [this], fun _ _ => rfl, Grow.refl w⟩
  have h1 := hr.add (d := none) (x := .any) (v := .nilIface) ha (fun n hn => by injection hn with hn; subst hn; exact hf) (fun t h => by simp at h) (.any _) hr.sat.im hr.sat.ob
  have h2 := h1.withBlk (k := k) (B := .row enc [] E s) ⟨[], ⟨by simp, .inl ⟨by simp, rfl⟩⟩, fun i x h => by simp at h, fun i x j c v h => by simp at h, fun b hb => by simp [blkOf] at hb⟩
  refine ⟨_, h2.withBlk (k := b) (B := .box [.own k] E0) ⟨b1, vs, by simp [hbk, e1], e2, e3, e4, e5, fun j c v hc hv => ?_⟩⟩
  have hj : j = 0 := by
    have := (List.getElem?_eq_some_iff.1 hc).1
    simp at this; omega
  subst hj
  simp at hc; subst hc
  have := inv_nils (e6 0 .nils v rfl hv)
  rw [this]
  exact .own k none 0 0 (by simp)
end
end Go.Rse
namespace Go.Rse
open Go Go.RowKit
set_option linter.unusedVariables false
set_option linter.unusedSimpArgs false
/-- A pure operation: its number, its slot, its value, the operations that it stands on. -/
structure Fl : Type 1 where
  i : Nat
  d : Nat
  x : AV
  as : List Nat
/-- The state while those pure operations have come of which β says so. -/
def SP (b : St) (fl : List Fl) (β : Nat → Bool) : St := ⟨fl.map (fun f => (f.d, .ifb (β f.i) f.x)) ++ rmK (fl.map (·.d)) b.t, b.h⟩
def RP (b : St) (fl : List Fl) (as : List Nat) : St := ⟨(fl.filter fun f => memb f.i as).map (fun f => (f.d, f.x)) ++ rmK (fl.map (·.d)) b.t, b.h⟩

theorem lk_flS {g : Fl → AV} : ∀ {fl : List Fl} {b : List (Nat × AV)} {t : Nat} {x : AV}, lk (fl.map (fun f => (f.d, g f)) ++ b) t = some x → (∃ f ∈ fl, f.d = t ∧ g f = x) ∨ ((∀ f ∈ fl, f.d ≠ t) ∧ lk b t = some x)
  | [], b, t, x, h => .inr ⟨fun f hf => by simp at hf, by simpa using h⟩
  | f :: r, b, t, x, h => by
    simp only [List.map_cons, List.cons_append, lk_cons] at h
    cases hb : f.d.beq t <;> simp [hb] at h
    · have hne : f.d ≠ t := fun e => by subst e; simp at hb
      rcases lk_flS h with ⟨f', h1, h2, h3⟩ | ⟨h1, h2⟩
      · exact .inl ⟨f', by simp [h1], h2, h3⟩
      · exact .inr ⟨fun f' hf => by
          rcases List.mem_cons.1 hf with rfl | hf
          · exact hne
          · exact h1 f' hf, h2⟩
    · exact .inl ⟨f, by simp, by simpa using hb, h⟩
theorem lk_flG {g : Fl → AV} : ∀ {fl : List Fl} {b : List (Nat × AV)} {f : Fl}, (fl.map (·.d)).Nodup → f ∈ fl → lk (fl.map (fun f => (f.d, g f)) ++ b) f.d = some (g f)
  | f0 :: r, b, f, hn, hf => by
    simp only [List.map_cons, List.nodup_cons] at hn
    simp only [List.map_cons, List.cons_append, lk_cons]
    rcases List.mem_cons.1 hf with rfl | hf
    · simp
    · have hne : f0.d ≠ f.d := fun e => hn.1 (by rw [e]; exact List.mem_map.2 ⟨f, hf, rfl⟩)
      simp only [beqF.2 hne, cond_false]
      exact lk_flG hn.2 hf
theorem lk_flB {g : Fl → AV} : ∀ {fl : List Fl} {b : List (Nat × AV)} {t : Nat}, (∀ f ∈ fl, f.d ≠ t) → lk (fl.map (fun f => (f.d, g f)) ++ b) t = lk b t
  | [], b, t, _ => rfl
  | f :: r, b, t, h => by
    simp only [List.map_cons, List.cons_append, lk_cons, beqF.2 (h f (by simp)), cond_false]
    exact lk_flB fun f' hf => h f' (by simp [hf])
theorem nodup_inj {α : Type 1} {g : α → Nat} : ∀ {l : List α}, (l.map g).Nodup → ∀ {x y : α}, x ∈ l → y ∈ l → g x = g y → x = y
  | a :: r, hn, x, y, hx, hy, e => by
    simp only [List.map_cons, List.nodup_cons] at hn
    rcases List.mem_cons.1 hx with h1 | h1
    · rcases List.mem_cons.1 hy with h2 | h2
      · rw [h1, h2]
      · exact absurd (List.mem_map.2 ⟨y, h2, by rw [← e, h1]⟩) hn.1
    · rcases List.mem_cons.1 hy with h2 | h2
      · exact absurd (List.mem_map.2 ⟨x, h1, by rw [e, h2]⟩) hn.1
      · exact nodup_inj hn.2 h1 h2 e
section
variable {P : Program} {C : Ctx} {st st' : St}
theorem Rel.slots {g : Gh} {a : Act} {w : World} (h : Rel C st g a w) (hh : st'.h = st.h) (ht : ∀ t x, lk st'.t t = some x → RV g.I g.ρ x (a.tmps.getD t undef)) : Rel C st' g a w :=
  ⟨h.size, h.defers, ht, ⟨h.sat.im, h.sat.ob, fun k B hB => h.sat.blk k B (by rw [← hh]; exact hB)⟩, h.ext⟩
theorem SP_RP {b : St} {fl : List Fl} {β : Nat → Bool} {as : List Nat} (hn : (fl.map (·.d)).Nodup) (hβ : ∀ f ∈ fl, f.i ∈ as → β f.i = true) {g : Gh} {a : Act} {w : World} (h : Rel C (SP b fl β) g a w) : Rel C (RP b fl as) g a w := by
  refine h.slots rfl fun t x hx => ?_
  have hx : lk ((fl.filter fun f => memb f.i as).map (fun f => (f.d, f.x)) ++ rmK (fl.map (·.d)) b.t) t = some x := hx
  rcases lk_flS hx with ⟨f, hf, rfl, rfl⟩ | ⟨_, h2⟩
  · rw [List.mem_filter] at hf
    have h1 : RV g.I g.ρ (.ifb (β f.i) f.x) _ := h.tmps f.d _ (lk_flG (g := fun f => .ifb (β f.i) f.x) hn hf.1)
    exact inv_ifb h1 (hβ f hf.1 (memb_iff.1 hf.2))
  · have h3 := (lk_rmK h2).1
    refine h.tmps t x ?_
    show lk (fl.map (fun f => (f.d, .ifb (β f.i) f.x)) ++ rmK (fl.map (·.d)) b.t) t = some x
    rw [lk_flB (g := fun f => .ifb (β f.i) f.x) (fun f hf e => ?_)]
    · exact h2
    · have : memb t (fl.map (·.d)) = true := memb_iff.2 (List.mem_map.2 ⟨f, hf, e⟩)
      rw [h3] at this; simp at this
theorem SP_congr {b : St} {fl : List Fl} {β β' : Nat → Bool} (h : ∀ f ∈ fl, β f.i = β' f.i) : SP b fl β = SP b fl β' := by
  unfold SP
  rw [List.map_congr_left fun f hf => by rw [h f hf]]
def skipB (core : List (Nat × List Nat)) (f : Fl) (j : Nat) : Bool := (List.range core.length).any fun q => match core[q]? with
  | some c => (memb c.1 f.as && j.ble q) || (q.blt j && memb f.i c.2)
  | none => false
def PhOk (P : Program) (C : Ctx) (ops : Array Oper) (core : List (Nat × List Nat)) (fl : List Fl) (b : St) (f : Fl) (j : Nat) : Prop := skipB core f j = true ∨ ∃ o, ops[f.i]? = some o ∧ o.guard = none ∧ o.dst = some f.d ∧ f.d.blt C.n = true ∧ Pur P C o.op o.type (RP b fl f.as) f.x
/-- All pure operations in one phase. -/
def PhAll (P : Program) (C : Ctx) (ops : Array Oper) (core : List (Nat × List Nat)) (fl : List Fl) (b : St) (j : Nat) : List Fl → Prop
  | [] => True
  | f :: r => PhOk P C ops core fl b f j ∧ PhAll P C ops core fl b j r
theorem PhAll.get {ops : Array Oper} {core : List (Nat × List Nat)} {fl : List Fl} {b : St} {j : Nat} : ∀ {l : List Fl}, PhAll P C ops core fl b j l → ∀ f ∈ l, PhOk P C ops core fl b f j
  | g :: r, h, f, hf => by
    rcases List.mem_cons.1 hf with rfl | hf
    · exact h.1
    · exact h.2.get f hf
def chainC : List (Nat × List Nat) → Bool
  | c :: c' :: r => memb c.1 c'.2 && chainC (c' :: r)
  | _ => true
theorem chainC_get : ∀ {core : List (Nat × List Nat)}, chainC core = true → ∀ {q : Nat} {c c' : Nat × List Nat}, core[q]? = some c → core[q + 1]? = some c' → c.1 ∈ c'.2
  | a :: b :: r, h, 0, c, c', h1, h2 => by
    simp only [chainC, Bool.and_eq_true] at h
    simp at h1 h2; subst h1; subst h2; exact memb_iff.1 h.1
  | a :: b :: r, h, q + 1, c, c', h1, h2 => by
    simp only [chainC, Bool.and_eq_true] at h
    exact chainC_get (core := b :: r) h.2 (by simpa using h1) (by simpa using h2)
  | [a], h, q, c, c', h1, h2 => by simp at h2
  | [], h, q, c, c', h1, h2 => by simp at h1
/-- The plan's own side: numbers, slots, ancestors. -/
def planOk (ops : Array Oper) (fl : List Fl) (core : List (Nat × List Nat)) : Bool :=
  edgesOk ops && decide ((fl.map (·.d)).Nodup) && decide ((fl.map (·.i) ++ core.map (·.1)).Nodup) && ((List.range ops.size).all fun i => memb i (fl.map (·.i)) || memb i (core.map (·.1))) && (fl.all fun f => ancGo ops f.i f.as) && (core.all fun c => ancGo ops c.1 c.2) && chainC core
theorem first_false : ∀ {m : Nat} {l : List Bool}, (∃ i : Nat, i < m ∧ l[i]? = some false) → ∃ i : Nat, l[i]? = some false ∧ ∀ k : Nat, k < i → l[k]? ≠ some false
  | 0, l, ⟨i, h, _⟩ => by omega
  | m + 1, l, ⟨i, h, hi⟩ => by
    by_cases h2 : ∃ i : Nat, i < m ∧ l[i]? = some false
    · exact first_false h2
    · refine ⟨i, hi, fun k hk e => h2 ⟨k, by omega, e⟩⟩
theorem drawP {ops : Array Oper} {Q : Exit → St → Prop} {fl : List Fl} {core : List (Nat × List Nat)} {bs : Nat → St} (hp : planOk ops fl core = true) (hF : ∀ j, j ≤ core.length → PhAll P C ops core fl (bs j) j fl)
    (hM : ∀ j c, core[j]? = some c → ∀ β : Nat → Bool, (∀ a ∈ c.2, β a = true) → Step1 P C ops c.1 (SP (bs j) fl β) (SP (bs (j + 1)) fl β)) (hend : Q .normal (SP (bs core.length) fl fun _ => true)) :
    ∀ (n : Nat) (l : List Bool) (j : Nat) (g : Gh) (a : Act) (w : World), l.length = ops.size → Closed ops l.toArray → nFalse l = n → j ≤ core.length → (∀ q c, core[q]? = some c → (l.toArray.getD c.1 false = true ↔ q < j)) → Rel C (SP (bs j) fl fun i => l.toArray.getD i false) g a w →
    wpAnyIn C.F 0 P .any ops (lift C Q) n l.toArray a w := by
  simp only [planOk, Bool.and_eq_true, decide_eq_true_eq] at hp
  obtain ⟨⟨⟨⟨⟨⟨he, hnd⟩, hni⟩, hall⟩, hfa⟩, hca⟩, hcc⟩ := hp
  have hdir : ∀ i, i < ops.size → ∀ j ∈ dir ops i, j < i := fun i hi j hj => by
    have := List.all_eq_true.1 (List.all_eq_true.1 he i (by simpa using hi)) j hj
    simpa using this
  have hnf : (fl.map (·.i)).Nodup := (List.nodup_append.1 hni).1
  have hnc : (core.map (·.1)).Nodup := (List.nodup_append.1 hni).2.1
  have hdj : ∀ f ∈ fl, ∀ c ∈ core, f.i ≠ c.1 := fun f hf c hc => (List.nodup_append.1 hni).2.2 _ (List.mem_map.2 ⟨f, hf, rfl⟩) _ (List.mem_map.2 ⟨c, hc, rfl⟩)
  have hget : ∀ (l : List Bool) (i : Nat), i < l.length → (l.toArray.getD i false = true ↔ l[i]? = some true) := fun l i h => by
    simp [Array.getD_eq_getD_getElem?, h]
  intro n
  induction n with
  | zero =>
    intro l j g a w hl hcl hn hj hq hr
    have hal := nFalse_zero hn
    have htrue : ∀ i, i < l.length → l.toArray.getD i false = true := fun i hi => by
      have := List.all_eq_true.1 hal _ (List.getElem_mem hi)
      simp [Array.getD_eq_getD_getElem?, hi]; simpa using this
    refine ⟨List.eq_nil_iff_forall_not_mem.2 fun i hi => ?_, ?_⟩
    · obtain ⟨h1, h2, _⟩ := ready_iff.1 hi
      rw [getD_tf (by simpa [hl] using h1), htrue i (by omega)] at h2
      cases h2
    · have hidx : ∀ i, i ∈ fl.map (·.i) ++ core.map (·.1) → l.toArray.getD i false = true ∨ ops.size ≤ i := fun i _ => by
        rcases Nat.lt_or_ge i ops.size with h | h
        · exact .inl (htrue i (by omega))
        · exact .inr h
      have hj2 : j = core.length := by
        rcases Nat.lt_or_ge j core.length with h | h
        · exfalso
          obtain ⟨c, hc⟩ : ∃ c, core[j]? = some c := ⟨_, List.getElem?_eq_getElem h⟩
          have h1 : ¬ l.toArray.getD c.1 false = true := fun e => by have := (hq j c hc).1 e; omega
          rcases hidx c.1 (List.mem_append_right _ (List.mem_map.2 ⟨c, List.mem_of_getElem? hc, rfl⟩)) with h2 | h2
          · exact h1 h2
          · obtain ⟨o, ho, _⟩ := hM j c hc (fun _ => true) (fun _ _ => rfl)
            have := (Array.getElem?_eq_some_iff.1 ho).1
            omega
        · omega
      subst hj2
      refine ⟨_, g, hr, ?_⟩
      have hcg : SP (bs core.length) fl (fun i => l.toArray.getD i false) = SP (bs core.length) fl fun _ => true := SP_congr fun f hf => by
        rcases hidx f.i (List.mem_append_left _ (List.mem_map.2 ⟨f, hf, rfl⟩)) with h2 | h2
        · exact h2
        · rcases (hF core.length (Nat.le_refl _)).get f hf with h3 | ⟨o, ho, _⟩
          · exfalso
            obtain ⟨q, _, h4⟩ := List.any_eq_true.1 h3
            cases hc : core[q]? with
            | none => simp [hc] at h4
            | some c =>
              simp only [hc, Bool.or_eq_true, Bool.and_eq_true] at h4
              have hqlt := (List.getElem?_eq_some_iff.1 hc).1
              rcases h4 with ⟨_, h5⟩ | ⟨_, h5⟩
              · have : core.length ≤ q := by simpa using h5
                omega
              · have hcl2 := (hq q c hc).2 hqlt
                obtain ⟨o, ho, _⟩ := hM q c hc (fun _ => true) (fun _ _ => rfl)
                have hcs := (Array.getElem?_eq_some_iff.1 ho).1
                have h6 := anc_listed hcl (hcl c.1 hcs hcl2) (List.all_eq_true.1 hca c (List.mem_of_getElem? hc)) f.i (memb_iff.1 h5)
                have : f.i < l.length := by
                  rcases Nat.lt_or_ge f.i l.length with h | h
                  · exact h
                  · simp [Array.getD_eq_getD_getElem?, List.getElem?_eq_none h] at h6
                omega
          · have := (Array.getElem?_eq_some_iff.1 ho).1
            omega
      rw [hcg]; exact hend
  | succ n ih =>
    intro l j g a w hl hcl hn hj hq hr
    have hex : ∃ i : Nat, l[i]? = some false ∧ ∀ k : Nat, k < i → l[k]? ≠ some false := by
      refine first_false (m := l.length) ?_
      refine Classical.byContradiction fun hno => ?_
      have : nFalse l = 0 := by
        unfold nFalse
        rw [List.filter_eq_nil_iff.2 (fun b hb => ?_)]; rfl
        obtain ⟨i, hi⟩ := List.mem_iff_getElem?.1 hb
        cases b
        · exact absurd ⟨i, (List.getElem?_eq_some_iff.1 hi).1, hi⟩ hno
        · simp
      omega
    have hne : Region.ready .any ops l.toArray ≠ [] := fun e => by
      obtain ⟨i, hi, hmin⟩ := hex
      have hlt := (List.getElem?_eq_some_iff.1 hi).1
      have : i ∈ Region.ready .any ops l.toArray := ready_iff.2 ⟨by omega, by simp [Array.getD_eq_getD_getElem?, hi], fun k hk => by
        have hki := hdir i (by omega) k hk
        rw [hget l k (by omega)]
        have h1 := hmin k hki
        have h2 : l[k]? = some l[k] := List.getElem?_eq_getElem (by omega)
        cases hb : l[k]
        · rw [hb] at h2; exact absurd h2 h1
        · rw [hb] at h2; exact h2⟩
      rw [e] at this; simp at this
    refine ⟨fun e => absurd e hne, fun i hi => ?_⟩
    obtain ⟨r1, r2, r3⟩ := ready_iff.1 hi
    have hlt : i < l.length := by omega
    have hif : l[i]? = some false := by
      simp [Array.getD_eq_getD_getElem?, hlt] at r2
      rw [List.getElem?_eq_getElem hlt, r2]
    have hil : l.toArray.getD i false = false := by simp [Array.getD_eq_getD_getElem?, hif]
    have es : l.toArray.setIfInBounds i true = (l.set i true).toArray := by simp
    have hset : ∀ k, (l.set i true).toArray.getD k false = if i = k then true else l.toArray.getD k false := fun k => by
      rw [← es]; exact getD_set (by simpa using hlt)
    have hcl2 : Closed ops (l.set i true).toArray := fun k hk hkl m hm => by
      rw [hset] at hkl ⊢
      by_cases e : i = m
      · rw [if_pos e]
      · rw [if_neg e]
        by_cases e2 : i = k
        · subst e2; exact r3 m hm
        · rw [if_neg e2] at hkl; exact hcl k hk hkl m hm
    have hn2 : nFalse (l.set i true) = n := by have := nFalse_set hif; omega
    have hmem : i ∈ fl.map (·.i) ∨ i ∈ core.map (·.1) := by
      have := List.all_eq_true.1 hall i (by simpa using r1)
      simp only [Bool.or_eq_true] at this
      rcases this with h | h
      · exact .inl (memb_iff.1 h)
      · exact .inr (memb_iff.1 h)
    rcases hmem with hm | hm
    · obtain ⟨f, hf, rfl⟩ := List.mem_map.1 hm
      rcases (hF j hj).get f hf with h3 | ⟨o, ho, hg, hd, hdn, hpur⟩
      · exfalso
        obtain ⟨q, _, h4⟩ := List.any_eq_true.1 h3
        cases hc : core[q]? with
        | none => simp [hc] at h4
        | some c =>
          simp only [hc, Bool.or_eq_true, Bool.and_eq_true] at h4
          rcases h4 with ⟨h5, h6⟩ | ⟨h5, h6⟩
          · have h7 := anc_listed hcl r3 (List.all_eq_true.1 hfa f hf) c.1 (memb_iff.1 h5)
            have := (hq q c hc).1 h7
            have : j ≤ q := by simpa using h6
            omega
          · have hqj : q < j := by simpa using h5
            have h7 := (hq q c hc).2 hqj
            obtain ⟨o, ho, _⟩ := hM q c hc (fun _ => true) (fun _ _ => rfl)
            have h8 := anc_listed hcl (hcl c.1 (Array.getElem?_eq_some_iff.1 ho).1 h7) (List.all_eq_true.1 hca c (List.mem_of_getElem? hc)) f.i (memb_iff.1 h6)
            rw [hil] at h8; cases h8
      · have hrR := SP_RP (as := f.as) hnd (fun f' hf' hin => anc_listed hcl r3 (List.all_eq_true.1 hfa f hf) f'.i hin) hr
        obtain ⟨dst, op, ty, pos, af, gd⟩ := o
        simp only at hg hd hpur; subst hg; subst hd
        simp only [wpOpIn, ho]
        have hw : Region.wanted { dst := some f.d, op := op, type := ty, pos := pos, after := af, guard := none } (yielded ops a.tmps) = true := rfl
        rw [if_pos hw]
        refine wp1_in (hpur.stepA g a w (some f.d) pos af none hrR _ fun v w' g' h2 h3 h4 h5 => ?_)
        rw [es]
        refine ih (l.set f.i true) j g' _ w' (by simpa using hl) hcl2 hn2 hj (fun q c hc => ?_) ?_
        · rw [hset, if_neg (hdj f hf c (List.mem_of_getElem? hc))]; exact hq q c hc
        · have h6 := hr.addSt (d := some f.d) (nb := none) h2 hdn rfl h3 h4.1 h4.2 (fun _ _ h => by cases h)
          refine h6.slots rfl fun t x hx => ?_
          have hx : lk (fl.map (fun f' => (f'.d, .ifb ((l.set f.i true).toArray.getD f'.i false) f'.x)) ++ rmK (fl.map (·.d)) (bs j).t) t = some x := hx
          rcases lk_flS (g := fun f' => .ifb ((l.set f.i true).toArray.getD f'.i false) f'.x) hx with ⟨f', hf', rfl, rfl⟩ | ⟨h7, h8⟩
          · by_cases e : f'.i = f.i
            · have : f' = f := nodup_inj hnf hf' hf e
              subst this
              have h9 : lk ((f'.d, f'.x) :: (SP (bs j) fl fun i => l.toArray.getD i false).t) f'.d = some f'.x := by simp [lk_cons]
              exact .ifb _ _ _ fun _ => h6.tmps f'.d f'.x h9
            · have hdne : f.d ≠ f'.d := fun e2 => e (congrArg Fl.i (nodup_inj hnd hf' hf e2.symm))
              have h9 : lk ((f.d, f.x) :: (SP (bs j) fl fun i => l.toArray.getD i false).t) f'.d = some (.ifb (l.toArray.getD f'.i false) f'.x) := by
                simp only [lk_cons, beqF.2 hdne, cond_false]
                exact lk_flG (g := fun f => .ifb (l.toArray.getD f.i false) f.x) hnd hf'
              have h10 := h6.tmps f'.d _ h9
              show RV g'.I g'.ρ (.ifb ((l.set f.i true).toArray.getD f'.i false) f'.x) _
              rw [hset, if_neg (fun e2 => e e2.symm)]
              exact h10
          · have hdne : f.d ≠ t := h7 f hf
            refine h6.tmps t x ?_
            show lk ((f.d, f.x) :: (SP (bs j) fl fun i => l.toArray.getD i false).t) t = some x
            simp only [lk_cons, beqF.2 hdne, cond_false]
            show lk (fl.map (fun f => (f.d, .ifb (l.toArray.getD f.i false) f.x)) ++ rmK (fl.map (·.d)) (bs j).t) t = some x
            rw [lk_flB (g := fun f => .ifb (l.toArray.getD f.i false) f.x) h7]; exact h8
    · obtain ⟨c, hcm, rfl⟩ := List.mem_map.1 hm
      obtain ⟨q, hcq⟩ := List.mem_iff_getElem?.1 hcm
      have hqj : q = j := by
        have h1 : ¬ q < j := fun h => by have := (hq q c hcq).2 h; rw [hil] at this; cases this
        cases q with
        | zero => omega
        | succ q =>
          obtain ⟨c0, hc0⟩ : ∃ c0, core[q]? = some c0 := ⟨_, List.getElem?_eq_getElem (by have := (List.getElem?_eq_some_iff.1 hcq).1; omega)⟩
          have h2 := chainC_get hcc hc0 hcq
          have h3 := anc_listed hcl r3 (List.all_eq_true.1 hca c hcm) c0.1 h2
          have := (hq q c0 hc0).1 h3
          omega
      subst hqj
      have hqlt := (List.getElem?_eq_some_iff.1 hcq).1
      obtain ⟨o, ho, hg, hst⟩ := hM q c hcq (fun i => l.toArray.getD i false) (anc_listed hcl r3 (List.all_eq_true.1 hca c hcm))
      obtain ⟨dst, op, ty, pos, af, gd⟩ := o
      simp only at hg hst; subst hg
      simp only [wpOpIn, ho]
      have hw : Region.wanted { dst := dst, op := op, type := ty, pos := pos, after := af, guard := none } (yielded ops a.tmps) = true := rfl
      rw [if_pos hw]
      refine wp1_in (hst g a w pos af none hr _ fun a' w' g' h' => ?_)
      rw [es]
      refine ih (l.set c.1 true) (q + 1) g' a' w' (by simpa using hl) hcl2 hn2 (by omega) (fun q' c' hc' => ?_) ?_
      · rw [hset]
        by_cases e : c.1 = c'.1
        · rw [if_pos e]
          have hqq : q' = q := by
            have h1 : (core.map (·.1))[q']? = some c'.1 := by rw [List.getElem?_map, hc']; rfl
            have h2 : (core.map (·.1))[q]? = some c'.1 := by rw [List.getElem?_map, hcq]; simp [e]
            exact (List.getElem?_inj (by simpa using (List.getElem?_eq_some_iff.1 hc').1) hnc).1 (h1.trans h2.symm)
          subst hqq
          exact ⟨fun _ => by omega, fun _ => rfl⟩
        · rw [if_neg e]
          rw [hq q' c' hc']
          have hqq : q' ≠ q := fun e2 => by subst e2; rw [hcq] at hc'; injection hc' with hc'; subst hc'; exact e rfl
          omega
      · rw [SP_congr (β' := fun i => l.toArray.getD i false) fun f hf => by rw [hset, if_neg (fun e => hdj f hf c hcm e.symm)]]
        exact h'
theorem Imp.SP0 {b : St} {fl : List Fl} (h : Imp C st b) : Imp C st (SP b fl fun _ => false) := fun g a w hr => by
  obtain ⟨g', h1⟩ := h g a w hr
  refine ⟨g', h1.slots rfl fun t x hx => ?_⟩
  have hx : lk (fl.map (fun f => (f.d, .ifb false f.x)) ++ rmK (fl.map (·.d)) b.t) t = some x := hx
  rcases lk_flS (g := fun f => .ifb false f.x) hx with ⟨f, hf, rfl, rfl⟩ | ⟨_, h2⟩
  · exact .ifb _ _ _ fun h => by cases h
  · exact h1.tmps t x (lk_rmK h2).2
theorem Imp.SP1 {b : St} {fl : List Fl} (hn : (fl.map (·.d)).Nodup) : Imp C (SP b fl fun _ => true) ⟨fl.map (fun f => (f.d, f.x)) ++ rmK (fl.map (·.d)) b.t, b.h⟩ := fun g a w hr => by
  refine ⟨g, hr.slots rfl fun t x hx => ?_⟩
  rcases lk_flS (g := fun f => f.x) hx with ⟨f, hf, rfl, rfl⟩ | ⟨h1, h2⟩
  · have h1 : RV g.I g.ρ (.ifb true f.x) _ := hr.tmps f.d _ (lk_flG (g := fun f => .ifb true f.x) hn hf)
    exact inv_ifb h1 rfl
  · refine hr.tmps t x ?_
    show lk (fl.map (fun f => (f.d, .ifb true f.x)) ++ rmK (fl.map (·.d)) b.t) t = some x
    rw [lk_flB (g := fun f => .ifb true f.x) h1]; exact h2
theorem LeV.ifbT {b : Bool} {x : AV} (h : b = true) : LeV (.ifb b x) x := by subst h; exact LeV.ifb (LeV.refl x)
theorem LeV.toIfb (b : Bool) (x : AV) : LeV x (.ifb b x) := fun I ρ v h => .ifb _ _ _ fun _ => h
theorem StepM.pre {dst : Option Tmp} {op : Op} {ty : TypeId} {st0 : St} (hi : Imp C st st0) (hs : StepM P C op ty dst st0 st') : StepM P C op ty dst st st' := fun g a w pos af gd hr K hK =>
  let ⟨g2, h2⟩ := hi g a w hr; hs g2 a w pos af gd h2 K hK
def lastOk (ds : List (List Bool)) (N : Nat) : Bool := (List.range ds.length).all fun p => match ds[p]? with
  | some d => !(d.all id) || p == N
  | none => true
/-- A drawn region, order by order; the last entry ends it. -/
theorem X.drawN' {rid : Nat} {l : List Oper} {Q : Exit → St → Prop} (sts : List St) (ds : List (List Bool)) (es : List (Nat × Nat × Nat)) (N : Nat) (hm : P.follows .mixedOrders = true) {s0 sN : St} (h0 : ds[0]? = some (List.replicate l.length false)) (hs0 : sts[0]? = some s0) (hi : Imp C st s0) (hc : cover l.toArray ds es = true) (hlen : ds.length = sts.length)
    (hN : lastOk ds N = true) (hsN : sts[N]? = some sN) (hs : HAll P C l.toArray sts es) (hend : Q .normal sN) : X P C (.region rid l.toArray true) st Q :=
  X.drawN sts ds es hm h0 hs0 hi hc hlen hs fun p d s hp hd hs1 => by
    have h1 := List.all_eq_true.1 hN p (by simpa using (List.getElem?_eq_some_iff.1 hp).1)
    rw [hp] at h1
    simp only [hd, Bool.not_true, Bool.false_or, beq_iff_eq] at h1
    subst h1
    rw [hsN] at hs1; injection hs1 with hs1; subst hs1; exact hend
/-- A drawn region in phases. -/
theorem X.drawP {rid : Nat} {l : List Oper} {Q : Exit → St → Prop} (fl : List Fl) (core : List (Nat × List Nat)) (bs : Nat → St) (hm : P.follows .mixedOrders = true) (hp : planOk l.toArray fl core = true) (hi : Imp C st (SP (bs 0) fl fun _ => false))
    (hF : ∀ j, j ≤ core.length → PhAll P C l.toArray core fl (bs j) j fl) (hM : ∀ j c, core[j]? = some c → ∀ β : Nat → Bool, (∀ a ∈ c.2, β a = true) → Step1 P C l.toArray c.1 (SP (bs j) fl β) (SP (bs (j + 1)) fl β)) (hend : Q .normal (SP (bs core.length) fl fun _ => true)) : X P C (.region rid l.toArray true) st Q := fun g a w hr => by
  refine wpIn_region_any hm ?_
  obtain ⟨g1, hr1⟩ := hi g a w hr
  have hr' : Rel C (SP (bs 0) fl fun _ => false) g1 a w.drew := hr1.add (nk := none) (d := none) (x := .any) (v := .nilIface) ⟨Im.le_refl _, fun _ _ => rfl, fun _ _ => rfl, Grow.drew w⟩ (fun k h => by simp at h) (fun t h => by simp at h) (.any _) hr1.sat.im hr1.sat.ob
  have hz : ∀ k, (List.replicate l.length false).toArray.getD k false = false := fun k => by
    simp only [Array.getD_eq_getD_getElem?, List.getElem?_toArray, List.getElem?_replicate]
    split <;> rfl
  have h := Rse.drawP hp hF hM hend (nFalse (List.replicate l.length false)) (List.replicate l.length false) 0 g1 a w.drew (by simp) (fun i _ hi => by rw [hz] at hi; cases hi) rfl (Nat.zero_le _) (fun q c _ => by rw [hz]; exact ⟨fun h => (by cases h), fun h => (by omega)⟩) (by
    rw [SP_congr (β' := fun _ => false) fun f _ => hz f.i]; exact hr')
  have e1 : nFalse (List.replicate l.length false) = l.toArray.size := by simp [nFalse]
  have e2 : (List.replicate l.length false).toArray = Array.replicate l.toArray.size false := by simp
  rw [e1, e2] at h
  exact h
end
end Go.Rse
namespace Go.Rse
open Go Go.RowKit
set_option linter.unusedVariables false
set_option linter.unusedSimpArgs false
section
variable {P : Program} {C : Ctx} {st : St} {ty : TypeId}
/-- A slice whose elements are written out. -/
theorem A_buildSliceF {α : Type} {enc : α → List AV} {l : List α} {t E : TypeId} {ag : Bool} {s n : Nat} {parts : Array (Nat × Operand)} {ps : List (Nat × AV)} {z : Value} (ht : slOk P t E = true) (hE : tyOk P E ag s = true) (hz : (P.info? E).bind (·.zero) = some z)
    (hs0 : 0 < s) (hp : evParts st parts.toList = some ps) (hk : okParts ps = true) (hf : fillA (fun i => some (i * s, s)) (List.replicate (n * s) .any) ps = some (l.flatMap enc)) (hln : l.length = n) (hn : n * s ≤ 16777216) (hm : n ≤ 1000000)
    (hs : ∀ x, (enc x).length = s) (hnm : AV.nm.nmL (l.flatMap enc) = true) : StepA P C (.buildSlice t n parts) ty st (.sl enc l) none :=
  StepA.of_run fun g a w dst pos af gd hr => by
    have hcap : n ≤ maxLen := by simp only [maxLen]; omega
    have main : ∀ zc : Array Value, ∃ vs', Instr.fill (fun i => some (i * s, s)) ((Array.range (n * s)).map (zc[· % zc.size]!)) (parts.map fun (i, x) => (i, a.eval x)).toList = some vs' ∧ RVL g.I g.ρ (l.flatMap enc) vs'.toList := fun zc => by
      have := fill_ok (I := g.I) (ρ := g.ρ) (fun i => some (i * s, s)) ps (parts.toList.map fun (i, x) => (i, a.eval x)) (List.replicate (n * s) .any) (l.flatMap enc) ((Array.range (n * s)).map (zc[· % zc.size]!)) (evParts_rv hr hp) hk
        ⟨by simp, fun j c v hc hv => by
          rw [List.getElem?_replicate] at hc
          split at hc
          · injection hc with hc; subst hc; exact .any v
          · simp at hc⟩ hf
      simpa using this
    have hsl : ∀ (i : Nat) x, l[i]? = some x → (enc x).length = s := fun i x _ => hs x
    let gF : Array Value → Gh := fun vs' => ⟨g.ρ, fun b o => if b = w.heap.size then vs'[o]? else g.I b o, g.O⟩
    have fin : ∀ vs' : Array Value, RVL g.I g.ρ (l.flatMap enc) vs'.toList →
        Add none g w (gF vs') (w.alloc (.cells vs' E)) ∧ RV (gF vs').I (gF vs').ρ (.sl enc l) (.slice (some ⟨w.heap.size, 0, none⟩) n n) ∧ ImOB (gF vs') (w.alloc (.cells vs' E)) := fun vs' hv => by
      have hle : Im.le g.I (gF vs').I := fun b o u hI => by
        have := cell_lt (hr.sat.im b o u hI).1
        simp only [gF]; rw [if_neg (by omega)]; exact hI
      have hlen : vs'.toList.length = n * s := by rw [hv.1, flat_len l hsl, hln]
      have hrow := row_of_flat hsl (I := g.I) (xs := vs'.toList) ⟨hv.1, fun j c v hc hvv => (hv.2 j c v hc hvv).forget (AV.nmL_get hnm hc)⟩
      refine ⟨⟨hle, fun _ _ => rfl, fun _ _ => rfl, Grow.alloc _ _⟩, ?_, fun b o u hI => ?_, fun b k hO => ?_, Im.le_trans hr.sat.ob.2 hle⟩
      · have hget : ∀ (i : Nat) (x : α) (j : Nat), l[i]? = some x → j < s → i * s + j < vs'.size := fun i x j hx hj => by
          have h1 : i < n := by rw [← hln]; exact (List.getElem?_eq_some_iff.1 hx).1
          have h2 : (i + 1) * s ≤ n * s := Nat.mul_le_mul_right s h1
          have h3 : vs'.size = n * s := by simpa using hlen
          rw [Nat.add_mul] at h2; omega
        have key := RV.sl (I := (gF vs').I) (ρ := (gF vs').ρ) enc l (some ⟨w.heap.size, 0, none⟩) w.heap.size 0 s n (fun i j => (vs'[i * s + j]?).getD .nilIface) (fun _ => rfl) (by omega) hcap hsl
          (fun i x j hx hj => by
            have := hget i x j hx hj
            simp only [gF, if_true, Nat.zero_add]
            simp [this])
          (fun i x j c hx hc => by
            have hj : j < s := by rw [← hs x]; exact (List.getElem?_eq_some_iff.1 hc).1
            have h1 := hget i x j hx hj
            have h2 : vs'.toList[i * s + j]? = some vs'[i * s + j] := by simp [h1]
            have h3 := (hrow i x j c _ hx hc h2).mono hle
            simpa [h1] using h3)
        rw [hln] at key
        exact key
      · simp only [gF] at hI
        by_cases e : b = w.heap.size
        · subst e
          rw [if_pos rfl] at hI
          refine ⟨?_, ?_⟩
          · have h1 := heap_alloc_new w (.cells vs' E)
            simp only [World.cell?, h1]
            simpa using hI
          · show g.O w.heap.size = none
            cases hO : g.O w.heap.size with
            | none => rfl
            | some k => have := hr.sat.ob.1 _ _ hO; omega
        · rw [if_neg e] at hI
          obtain ⟨h1, h2⟩ := hr.sat.im b o u hI
          exact ⟨(Grow.alloc w (.cells vs' E)).cell h1, h2⟩
      · have := hr.sat.ob.1 b k hO
        show b < (w.heap.push _).size
        simp; omega
    cases hi : P.info? E with
    | none => simp [hi] at hz
    | some i =>
      simp [hi] at hz
      have hsz : i.size = s := by simp [tyOk, hi] at hE; exact hE.1
      by_cases h0 : n * s = 0
      · obtain ⟨vs', h1, h2⟩ := main #[]
        obtain ⟨f1, f2, f3⟩ := fin vs' h2
        refine ⟨_, _, _, ?_, f1, f2, f3, fun k' B hB => by cases hB⟩
        simp only [execOp, Instr.buildSlice, Sem.run_bind, run_underlying (slOk_under ht), Result.andThen_ok, run_sizeOf hE, h0, if_true, Sem.run_pure]
        rw [h0] at h1
        rw [if_neg (by omega)]
        simp only [Sem.run_pure, Result.andThen_ok, h1, newRow, Sem.run_bind, run_newObj]
        rfl
      · obtain ⟨vs', h1, h2⟩ := main z.cells
        obtain ⟨f1, f2, f3⟩ := fin vs' h2
        refine ⟨_, _, _, ?_, f1, f2, f3, fun k' B hB => by cases hB⟩
        simp only [execOp, Instr.buildSlice, Sem.run_bind, run_underlying (slOk_under ht), Result.andThen_ok, run_sizeOf hE, h0, if_false, Sem.run_pure]
        rw [if_neg (by omega)]
        simp only [Sem.run_pure, Sem.run_bind, zeroValue, typeInfo, run_program, hi, hz, Result.andThen_ok, h1, newRow, run_newObj]
        rfl
end
end Go.Rse
