/-
  Maps of one's own by ints: make, update, lookup with its word.
-/
import Derived.Test.YteecbmgddacioaaGreatRse32
import Derived.MapKept
namespace Go.Rse
open Go Go.RowKit
set_option linter.unusedVariables false
set_option linter.unusedSimpArgs false
section plain
variable {α : Type}
def mix (q : Int) : List (Int × α) → Nat → Option (Nat × α)
  | [], _ => none
  | p :: r, i => if p.1 = q then some (i, p.2) else mix q r (i + 1)
def mget (q : Int) (l : List (Int × α)) : Option α := (mix q l 0).map (·.2)
def mput (q : Int) (x : α) (l : List (Int × α)) : List (Int × α) := match mix q l 0 with
  | some (i, _) => l.set i (q, x)
  | none => l ++ [(q, x)]
theorem mix_spec {q : Int} {d : IntKind} : ∀ (l : List (Int × α)) (es : List MapEntry) (i : Nat), es.length = l.length → (∀ (j : Nat) e p, es[j]? = some e → l[j]? = some p → e.key = .int .i64 p.1) →
    (mix q l i = none ∧ Instr.findNow (.int d) (.int .i64 q) es i = some none) ∨ ∃ j e x, mix q l i = some (i + j, x) ∧ Instr.findNow (.int d) (.int .i64 q) es i = some (some (i + j, e.val)) ∧ es[j]? = some e ∧ l[j]? = some (q, x)
  | [], [], i, _, _ => .inl ⟨rfl, rfl⟩
  | [], _ :: _, i, h, _ => by simp at h
  | _ :: _, [], i, h, _ => by simp at h
  | p :: l, e :: es, i, hl, hk => by
    have hk0 : e.key = .int .i64 p.1 := hk 0 e p rfl rfl
    by_cases hq : p.1 = q
    · refine .inr ⟨0, e, p.2, by simp [mix, hq], by simp [Instr.findNow, Instr.sameNow, hk0, hq], rfl, ?_⟩
      rw [← hq]; rfl
    · have hq' : ¬ q = p.1 := fun x => hq x.symm
      have hs : Instr.sameNow (.int d) (.int .i64 q) e.key = some false := by rw [hk0]; simp [Instr.sameNow, hq']
      rcases mix_spec (q := q) (d := d) l es (i + 1) (by simpa using hl) (fun j e' p' h1 h2 => hk (j + 1) e' p' h1 h2) with ⟨h1, h2⟩ | ⟨j, e', x, h1, h2, h3, h4⟩
      · exact .inl ⟨by simp [mix, hq, h1], by simp [Instr.findNow, hs, h2]⟩
      · refine .inr ⟨j + 1, e', x, by simp [mix, hq, h1]; omega, ?_, h3, h4⟩
        simp [Instr.findNow, hs, h2]; omega
end plain
section
variable {P : Program} {C : Ctx} {st : St} {ty : TypeId} {Q : Exit → St → Prop}
theorem inv_mp {I : Im} {ρ : Nat → Value} {k : Nat} {v : Value} (h : RV I ρ (.mp k) v) : ∃ b, v = .map (some b) ∧ ρ k = .map (some b) := by cases h with | mp _ b h => exact ⟨b, rfl, h⟩
theorem A_makeMap {κ α : Type} (kenc : κ → AV) (venc : α → AV) {t : TypeId} {k : Nat} : StepA P C (.makeMap t none) ty st (.mp k) (some (k, .mpb kenc venc [])) :=
  StepA.of_run fun g a w dst pos af gd hr => by
    refine ⟨.map (some w.heap.size), w.alloc (.map #[] 0), g.nw C.d w.heap.size k (.map (some w.heap.size)), ?_, Add.nw (Grow.alloc _ (.map #[] 0)) C.d k _, .mp k _ (by simp [Gh.nw]), ImOB.nw ⟨hr.sat.im, hr.sat.ob⟩ (Grow.alloc _ _) (by simp) C.d k _, fun k' B hB => ?_⟩
    · simp [execOp, Instr.makeMap, run_newObj, Result.andThen]
    · injection hB with hB; injection hB with e1 e2; subst e1; subst e2
      exact ⟨w.heap.size, #[], 0, by simp [Gh.nw], by simp [Gh.nw], .inl hr.ext.size, heap_alloc_new w _, rfl, fun i e p he hp => by simp at he⟩
def mpOk (P : Program) (t K E : TypeId) : Prop := P.underlying t = some (.map K E) ∧ ∃ d, P.underlying K = some (.int d)
theorem P_lookup {α : Type} {venc : α → AV} {l : List (Int × α)} {t K E : TypeId} {x y : Operand} {k : Nat} {q : Int} (z0 : α) (hx : ev st x = some (.mp k)) (hk : lk st.h k = some (.mpb (fun i : Int => .int .i64 i) venc l)) (hy : ev st y = some (.int .i64 q))
    (ht : mpOk P t K E) (hd : ∃ d, P.underlying K = some (.int d) ∧ d = .i64) (hf : ∀ v k, (venc v).fr k = true) (hz : ∃ z i, P.info? E = some i ∧ i.zero = some z ∧ ∀ I, RV I noNames (venc z0) z) :
    Pur P C (.lookup t x y true) ty st (.tup [venc ((mget q l).getD z0), .bool (mget q l).isSome]) := fun g a w dst pos af gd hr => by
  obtain ⟨b, es, ck, h1, h2, h3, h4, h5, h6⟩ := hr.sat.blk k _ hk
  have ex : a.eval x = .map (some b) := by
    obtain ⟨b', e1, e2⟩ := inv_mp (ev_rv hr hx)
    rw [e1, ← e2, h1]
  have ey := inv_int (ev_rv hr hy)
  obtain ⟨d, hd1, rfl⟩ := hd
  obtain ⟨z, i, hi, hzz, hzr⟩ := hz
  have hkeys : ∀ (j : Nat) e p, es.toList[j]? = some e → l[j]? = some p → e.key = .int .i64 p.1 := fun j e p he hp => inv_int (h6 j e p (by simpa using he) hp).1
  rcases mix_spec (q := q) (d := .i64) l es.toList 0 (by simpa using h5) hkeys with ⟨m1, m2⟩ | ⟨j, e, v, m1, m2, m3, m4⟩
  · refine ⟨.tuple #[z, .bool false], ?_, ?_⟩
    · simp [execOp, ex, ey, Instr.lookup, run_underlying ht.1, MapKept.run_getObj_map h4, MapKept.run_checkKey hd1 (show MapKept.IsKey (.int .i64) (.int .i64 q) from rfl), MapKept.run_findKey hd1 m2, Result.andThen, zeroValue, typeInfo, hi, hzz]
    · have e1 : (mget q l).getD z0 = z0 := by simp [mget, m1]
      have e2 : (mget q l).isSome = false := by simp [mget, m1]
      rw [e1, e2]
      refine .tup _ [z, .bool false] rfl fun j c v hc hv => ?_
      rcases j with _ | _ | j
      · simp at hc hv; subst hc; subst hv; exact (hzr g.I).forget' (hf _)
      · simp at hc hv; subst hc; subst hv; exact .bool _
      · simp at hc
  · simp only [Nat.zero_add] at m1 m2
    refine ⟨.tuple #[e.val, .bool true], ?_, ?_⟩
    · simp [execOp, ex, ey, Instr.lookup, run_underlying ht.1, MapKept.run_getObj_map h4, MapKept.run_checkKey hd1 (show MapKept.IsKey (.int .i64) (.int .i64 q) from rfl), MapKept.run_findKey hd1 m2, Result.andThen]
    · have e1 : (mget q l).getD z0 = v := by simp [mget, m1]
      have e2 : (mget q l).isSome = true := by simp [mget, m1]
      rw [e1, e2]
      refine .tup _ [e.val, .bool true] rfl fun j' c u hc hv => ?_
      rcases j' with _ | _ | j'
      · simp at hc hv; subst hc; subst hv; exact (h6 j e (q, v) (by simpa using m3) m4).2.forget' (hf _)
      · simp at hc hv; subst hc; subst hv; exact .bool _
      · simp at hc
theorem grownBy_setMap {w : World} {b : Nat} {o o' : Obj} (h : w.heap[b]? = some o) : w.grownBy { w with heap := w.heap.setIfInBounds b o' } (some b) :=
  ⟨rfl, rfl, rfl, by simp, fun k hk hne => (MapKept.heap_set h).2 k (fun e => hne (by rw [e]))⟩
theorem M_mapUpdate {α : Type} {venc : α → AV} {l : List (Int × α)} {t K E : TypeId} {x y z : Operand} {k : Nat} {q : Int} {u : AV} (v : α) (hx : ev st x = some (.mp k)) (hk : lk st.h k = some (.mpb (fun i : Int => .int .i64 i) venc l)) (hy : ev st y = some (.int .i64 q))
    (hz : ev st z = some u) (hu : u = venc v) (ht : mpOk P t K E) (hd : ∃ d, P.underlying K = some (.int d) ∧ d = .i64) (hf : ∀ v k, (venc v).fr k = true) :
    StepM P C (.mapUpdate t x y z) ty none st (putH st k (.mpb (fun i : Int => .int .i64 i) venc (mput q v l))) := fun g a w pos af gd hr K' hK => by
  obtain ⟨b, es, ck, h1, h2, h3, h4, h5, h6⟩ := hr.sat.blk k _ hk
  have ex : a.eval x = .map (some b) := by
    obtain ⟨b', e1, e2⟩ := inv_mp (ev_rv hr hx)
    rw [e1, ← e2, h1]
  have ey := inv_int (ev_rv hr hy)
  have ez : RV g.I noNames (venc v) (a.eval z) := (hu ▸ ev_rv hr hz).forget' (hf v)
  obtain ⟨d, hd1, rfl⟩ := hd
  have hkeys : ∀ (j : Nat) e p, es.toList[j]? = some e → l[j]? = some p → e.key = .int .i64 p.1 := fun j e p he hp => inv_int (h6 j e p (by simpa using he) hp).1
  have hkq : MapKept.IsKey (.int .i64) (.int .i64 q) := rfl
  rcases mix_spec (q := q) (d := .i64) l es.toList 0 (by simpa using h5) hkeys with ⟨m1, m2⟩ | ⟨j, e, v0, m1, m2, m3, m4⟩
  · have er : (Instr.mapUpdate t (.map (some b)) (.int .i64 q) (a.eval z)).run P w = .ok () { w with heap := w.heap.setIfInBounds b (.map (es.push { key := .int .i64 q, val := a.eval z, born := ck }) (ck + 1)) } := by
      simp [Instr.mapUpdate, run_underlying ht.1, MapKept.run_getObj_map h4, MapKept.run_checkKey hd1 hkq, MapKept.run_findKey hd1 m2, MapKept.run_setObj_map _ h4, Result.andThen]
    simp only [wp1, execOp, ex, ey, Sem.run_bind, er, Result.andThen_ok, Sem.run_pure, upon1]
    refine hK _ _ _ (hr.modify h2 h3 (grownBy_setMap h4) (Nat.le_refl _) ⟨b, _, _, h1, h2, h3, (MapKept.heap_set h4).1, ?_, ?_⟩)
    · simp [mput, m1, h5]
    · intro i e p he hp
      simp only [mput, m1] at hp
      rw [Array.getElem?_push] at he
      rw [List.getElem?_append] at hp
      by_cases hi : i < es.size
      · rw [if_neg (by omega)] at he
        rw [if_pos (by omega)] at hp
        exact h6 i e p he hp
      · split at he
        · next hie =>
          injection he with he; subst he
          rw [if_neg (by omega)] at hp
          have : i - l.length = 0 := by omega
          rw [this] at hp; simp at hp; subst hp
          exact ⟨.int _ _, ez⟩
        · rw [Array.getElem?_eq_none (by omega)] at he; simp at he
  · simp only [Nat.zero_add] at m1 m2
    have hke : e.key = .int .i64 q := hkeys j e _ m3 m4
    have hj : es[j]? = some e := by simpa using m3
    have er : (Instr.mapUpdate t (.map (some b)) (.int .i64 q) (a.eval z)).run P w = .ok () { w with heap := w.heap.setIfInBounds b (.map (es.modify j fun e => { e with key := .int .i64 q, val := a.eval z }) ck) } := by
      simp [Instr.mapUpdate, run_underlying ht.1, MapKept.run_getObj_map h4, MapKept.run_checkKey hd1 hkq, MapKept.run_findKey hd1 m2, hj, hke, MapKept.run_keyThatStays hkq, MapKept.run_setObj_map _ h4, Result.andThen]
    simp only [wp1, execOp, ex, ey, Sem.run_bind, er, Result.andThen_ok, Sem.run_pure, upon1]
    refine hK _ _ _ (hr.modify h2 h3 (grownBy_setMap h4) (Nat.le_refl _) ⟨b, _, _, h1, h2, h3, (MapKept.heap_set h4).1, ?_, ?_⟩)
    · simp [mput, m1, h5]
    · intro i e' p he hp
      simp only [mput, m1] at hp
      rw [Array.getElem?_modify] at he
      rw [List.getElem?_set] at hp
      by_cases hi : j = i
      · subst hi
        rw [if_pos rfl] at he hp
        rw [hj] at he
        simp at he; subst he
        split at hp
        · injection hp with hp; subst hp; exact ⟨.int _ _, ez⟩
        · simp at hp
      · rw [if_neg hi] at he hp
        exact h6 i e' p he hp
end
end Go.Rse
