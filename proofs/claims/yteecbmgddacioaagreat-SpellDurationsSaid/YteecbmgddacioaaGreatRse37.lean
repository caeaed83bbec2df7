/-
  The logic: drawn regions of which some operations lay memory that stays; parts of lists.
-/
import Derived.Test.YteecbmgddacioaaGreatRse27
namespace Go.Rse
open Go Go.RowKit
set_option linter.unusedVariables false
set_option linter.unusedSimpArgs false
section
variable {P : Program} {C : Ctx} {st : St} {ty : TypeId}
def PhOkA (P : Program) (C : Ctx) (ops : Array Oper) (core : List (Nat × List Nat)) (fl : List Fl) (b : St) (f : Fl) (j : Nat) : Prop := skipB core f j = true ∨ ∃ o, ops[f.i]? = some o ∧ o.guard = none ∧ o.dst = some f.d ∧ f.d.blt C.n = true ∧ StepA P C o.op o.type (RP b fl f.as) f.x none
/-- All pure operations in one phase. -/
def PhAllA (P : Program) (C : Ctx) (ops : Array Oper) (core : List (Nat × List Nat)) (fl : List Fl) (b : St) (j : Nat) : List Fl → Prop
  | [] => True
  | f :: r => PhOkA P C ops core fl b f j ∧ PhAllA P C ops core fl b j r
theorem PhAllA.get {ops : Array Oper} {core : List (Nat × List Nat)} {fl : List Fl} {b : St} {j : Nat} : ∀ {l : List Fl}, PhAllA P C ops core fl b j l → ∀ f ∈ l, PhOkA P C ops core fl b f j
  | g :: r, h, f, hf => by
    rcases List.mem_cons.1 hf with rfl | hf
    · exact h.1
    · exact h.2.get f hf

theorem drawQ {ops : Array Oper} {Q : Exit → St → Prop} {fl : List Fl} {core : List (Nat × List Nat)} {bs : Nat → St} (hp : planOk ops fl core = true) (hF : ∀ j, j ≤ core.length → PhAllA P C ops core fl (bs j) j fl)
    (hM : ∀ j c, core[j]? = some c → ∀ β : Nat → Bool, (∀ a ∈ c.2, β a = true) → Step1 P C ops c.1 (SP (bs j) fl β) (SP (bs (j + 1)) fl β)) (hend : Q .normal (SP (bs core.length) fl fun _ => true)) :
    ∀ (n : Nat) (l : List Bool) (j : Nat) (g : Gh) (a : Act) (w : World), l.length = ops.size → Closed ops l.toArray → nFalse l = n → j ≤ core.length → (∀ q c, core[q]? = some c → (l.toArray.getD c.1 false = true ↔ q < j)) → Rel C (SP (bs j) fl fun i => l.toArray.getD i false) g a w →
    wpAnyIn C.F 0 P .any ops (lift C Q) n l.toArray a w := by
  simp only [planOk, Bool.and_eq_true, decide_eq_true_eq] at hp
  obtain ⟨⟨⟨⟨⟨⟨he, hnd⟩, hni⟩, hall⟩, hfa⟩, hca⟩, hcc⟩ := hp
  have hdir : ∀ i, i < ops.size → ∀ j ∈ dir ops i, j < i := fun i hi j hj => by
    have := List.all_eq_true.1 (List.all_eq_true.1 he i (by simpa using hi)) j hj
    simpa using this
  have hnf : (fl.map (·.i)).Nodup := (List.nodup_append.1 hni).1
  have hnc : (core.map (·.1)).Nodup := (List.nodup_append.1 hni).2.1
  have hdj : ∀ f ∈ fl, ∀ c ∈ core, f.i ≠ c.1 := fun f hf c hc => (List.nodup_append.1 hni).2.2 _ (List.mem_map.2 ⟨f, hf, rfl⟩) _ (List.mem_map.2 ⟨c, hc, rfl⟩)
  have hget : ∀ (l : List Bool) (i : Nat), i < l.length → (l.toArray.getD i false = true ↔ l[i]? = some true) := fun l i h => by
    simp [Array.getD_eq_getD_getElem?, h]
  intro n
  induction n with
  | zero =>
    intro l j g a w hl hcl hn hj hq hr
    have hal := nFalse_zero hn
    have htrue : ∀ i, i < l.length → l.toArray.getD i false = true := fun i hi => by
      have := List.all_eq_true.1 hal _ (List.getElem_mem hi)
      simp [Array.getD_eq_getD_getElem?, hi]; simpa using this
    refine ⟨List.eq_nil_iff_forall_not_mem.2 fun i hi => ?_, ?_⟩
    · obtain ⟨h1, h2, _⟩ := ready_iff.1 hi
      rw [getD_tf (by simpa [hl] using h1), htrue i (by omega)] at h2
      cases h2
    · have hidx : ∀ i, i ∈ fl.map (·.i) ++ core.map (·.1) → l.toArray.getD i false = true ∨ ops.size ≤ i := fun i _ => by
        rcases Nat.lt_or_ge i ops.size with h | h
        · exact .inl (htrue i (by omega))
        · exact .inr h
      have hj2 : j = core.length := by
        rcases Nat.lt_or_ge j core.length with h | h
        · exfalso
          obtain ⟨c, hc⟩ : ∃ c, core[j]? = some c := ⟨_, List.getElem?_eq_getElem h⟩
          have h1 : ¬ l.toArray.getD c.1 false = true := fun e => by have := (hq j c hc).1 e; omega
          rcases hidx c.1 (List.mem_append_right _ (List.mem_map.2 ⟨c, List.mem_of_getElem? hc, rfl⟩)) with h2 | h2
          · exact h1 h2
          · obtain ⟨o, ho, _⟩ := hM j c hc (fun _ => true) (fun _ _ => rfl)
            have := (Array.getElem?_eq_some_iff.1 ho).1
            omega
        · omega
      subst hj2
      refine ⟨_, g, hr, ?_⟩
      have hcg : SP (bs core.length) fl (fun i => l.toArray.getD i false) = SP (bs core.length) fl fun _ => true := SP_congr fun f hf => by
        rcases hidx f.i (List.mem_append_left _ (List.mem_map.2 ⟨f, hf, rfl⟩)) with h2 | h2
        · exact h2
        · rcases (hF core.length (Nat.le_refl _)).get f hf with h3 | ⟨o, ho, _⟩
          · exfalso
            obtain ⟨q, _, h4⟩ := List.any_eq_true.1 h3
            cases hc : core[q]? with
            | none => simp [hc] at h4
            | some c =>
              simp only [hc, Bool.or_eq_true, Bool.and_eq_true] at h4
              have hqlt := (List.getElem?_eq_some_iff.1 hc).1
              rcases h4 with ⟨_, h5⟩ | ⟨_, h5⟩
              · have : core.length ≤ q := by simpa using h5
                omega
              · have hcl2 := (hq q c hc).2 hqlt
                obtain ⟨o, ho, _⟩ := hM q c hc (fun _ => true) (fun _ _ => rfl)
                have hcs := (Array.getElem?_eq_some_iff.1 ho).1
                have h6 := anc_listed hcl (hcl c.1 hcs hcl2) (List.all_eq_true.1 hca c (List.mem_of_getElem? hc)) f.i (memb_iff.1 h5)
                have : f.i < l.length := by
                  rcases Nat.lt_or_ge f.i l.length with h | h
                  · exact h
                  · simp [Array.getD_eq_getD_getElem?, List.getElem?_eq_none h] at h6
                omega
          · have := (Array.getElem?_eq_some_iff.1 ho).1
            omega
      rw [hcg]; exact hend
  | succ n ih =>
    intro l j g a w hl hcl hn hj hq hr
    have hex : ∃ i : Nat, l[i]? = some false ∧ ∀ k : Nat, k < i → l[k]? ≠ some false := by
      refine first_false (m := l.length) ?_
      refine Classical.byContradiction fun hno => ?_
      have : nFalse l = 0 := by
        unfold nFalse
        rw [List.filter_eq_nil_iff.2 (fun b hb => ?_)]; rfl
        obtain ⟨i, hi⟩ := List.mem_iff_getElem?.1 hb
        cases b
        · exact absurd ⟨i, (List.getElem?_eq_some_iff.1 hi).1, hi⟩ hno
        · simp
      omega
    have hne : Region.ready .any ops l.toArray ≠ [] := fun e => by
      obtain ⟨i, hi, hmin⟩ := hex
      have hlt := (List.getElem?_eq_some_iff.1 hi).1
      have : i ∈ Region.ready .any ops l.toArray := ready_iff.2 ⟨by omega, by simp [Array.getD_eq_getD_getElem?, hi], fun k hk => by
        have hki := hdir i (by omega) k hk
        rw [hget l k (by omega)]
        have h1 := hmin k hki
        have h2 : l[k]? = some l[k] := List.getElem?_eq_getElem (by omega)
        cases hb : l[k]
        · rw [hb] at h2; exact absurd h2 h1
        · rw [hb] at h2; exact h2⟩
      rw [e] at this; simp at this
    refine ⟨fun e => absurd e hne, fun i hi => ?_⟩
    obtain ⟨r1, r2, r3⟩ := ready_iff.1 hi
    have hlt : i < l.length := by omega
    have hif : l[i]? = some false := by
      simp [Array.getD_eq_getD_getElem?, hlt] at r2
      rw [List.getElem?_eq_getElem hlt, r2]
    have hil : l.toArray.getD i false = false := by simp [Array.getD_eq_getD_getElem?, hif]
    have es : l.toArray.setIfInBounds i true = (l.set i true).toArray := by simp
    have hset : ∀ k, (l.set i true).toArray.getD k false = if i = k then true else l.toArray.getD k false := fun k => by
      rw [← es]; exact getD_set (by simpa using hlt)
    have hcl2 : Closed ops (l.set i true).toArray := fun k hk hkl m hm => by
      rw [hset] at hkl ⊢
      by_cases e : i = m
      · rw [if_pos e]
      · rw [if_neg e]
        by_cases e2 : i = k
        · subst e2; exact r3 m hm
        · rw [if_neg e2] at hkl; exact hcl k hk hkl m hm
    have hn2 : nFalse (l.set i true) = n := by have := nFalse_set hif; omega
    have hmem : i ∈ fl.map (·.i) ∨ i ∈ core.map (·.1) := by
      have := List.all_eq_true.1 hall i (by simpa using r1)
      simp only [Bool.or_eq_true] at this
      rcases this with h | h
      · exact .inl (memb_iff.1 h)
      · exact .inr (memb_iff.1 h)
    rcases hmem with hm | hm
    · obtain ⟨f, hf, rfl⟩ := List.mem_map.1 hm
      rcases (hF j hj).get f hf with h3 | ⟨o, ho, hg, hd, hdn, hpur⟩
      · exfalso
        obtain ⟨q, _, h4⟩ := List.any_eq_true.1 h3
        cases hc : core[q]? with
        | none => simp [hc] at h4
        | some c =>
          simp only [hc, Bool.or_eq_true, Bool.and_eq_true] at h4
          rcases h4 with ⟨h5, h6⟩ | ⟨h5, h6⟩
          · have h7 := anc_listed hcl r3 (List.all_eq_true.1 hfa f hf) c.1 (memb_iff.1 h5)
            have := (hq q c hc).1 h7
            have : j ≤ q := by simpa using h6
            omega
          · have hqj : q < j := by simpa using h5
            have h7 := (hq q c hc).2 hqj
            obtain ⟨o, ho, _⟩ := hM q c hc (fun _ => true) (fun _ _ => rfl)
            have h8 := anc_listed hcl (hcl c.1 (Array.getElem?_eq_some_iff.1 ho).1 h7) (List.all_eq_true.1 hca c (List.mem_of_getElem? hc)) f.i (memb_iff.1 h6)
            rw [hil] at h8; cases h8
      · have hrR := SP_RP (as := f.as) hnd (fun f' hf' hin => anc_listed hcl r3 (List.all_eq_true.1 hfa f hf) f'.i hin) hr
        obtain ⟨dst, op, ty, pos, af, gd⟩ := o
        simp only at hg hd hpur; subst hg; subst hd
        simp only [wpOpIn, ho]
        have hw : Region.wanted { dst := some f.d, op := op, type := ty, pos := pos, after := af, guard := none } (yielded ops a.tmps) = true := rfl
        rw [if_pos hw]
        refine wp1_in (hpur g a w (some f.d) pos af none hrR _ fun v w' g' h2 h3 h4 h5 => ?_)
        rw [es]
        refine ih (l.set f.i true) j g' _ w' (by simpa using hl) hcl2 hn2 hj (fun q c hc => ?_) ?_
        · rw [hset, if_neg (hdj f hf c (List.mem_of_getElem? hc))]; exact hq q c hc
        · have h6 := hr.addSt (d := some f.d) (nb := none) h2 hdn rfl h3 h4.1 h4.2 (fun _ _ h => by cases h)
          refine h6.slots rfl fun t x hx => ?_
          have hx : lk (fl.map (fun f' => (f'.d, .ifb ((l.set f.i true).toArray.getD f'.i false) f'.x)) ++ rmK (fl.map (·.d)) (bs j).t) t = some x := hx
          rcases lk_flS (g := fun f' => .ifb ((l.set f.i true).toArray.getD f'.i false) f'.x) hx with ⟨f', hf', rfl, rfl⟩ | ⟨h7, h8⟩
          · by_cases e : f'.i = f.i
            · have : f' = f := nodup_inj hnf hf' hf e
              subst this
              have h9 : lk ((f'.d, f'.x) :: (SP (bs j) fl fun i => l.toArray.getD i false).t) f'.d = some f'.x := by simp [lk_cons]
              exact .ifb _ _ _ fun _ => h6.tmps f'.d f'.x h9
            · have hdne : f.d ≠ f'.d := fun e2 => e (congrArg Fl.i (nodup_inj hnd hf' hf e2.symm))
              have h9 : lk ((f.d, f.x) :: (SP (bs j) fl fun i => l.toArray.getD i false).t) f'.d = some (.ifb (l.toArray.getD f'.i false) f'.x) := by
                simp only [lk_cons, beqF.2 hdne, cond_false]
                exact lk_flG (g := fun f => .ifb (l.toArray.getD f.i false) f.x) hnd hf'
              have h10 := h6.tmps f'.d _ h9
              show RV g'.I g'.ρ (.ifb ((l.set f.i true).toArray.getD f'.i false) f'.x) _
              rw [hset, if_neg (fun e2 => e e2.symm)]
              exact h10
          · have hdne : f.d ≠ t := h7 f hf
            refine h6.tmps t x ?_
            show lk ((f.d, f.x) :: (SP (bs j) fl fun i => l.toArray.getD i false).t) t = some x
            simp only [lk_cons, beqF.2 hdne, cond_false]
            show lk (fl.map (fun f => (f.d, .ifb (l.toArray.getD f.i false) f.x)) ++ rmK (fl.map (·.d)) (bs j).t) t = some x
            rw [lk_flB (g := fun f => .ifb (l.toArray.getD f.i false) f.x) h7]; exact h8
    · obtain ⟨c, hcm, rfl⟩ := List.mem_map.1 hm
      obtain ⟨q, hcq⟩ := List.mem_iff_getElem?.1 hcm
      have hqj : q = j := by
        have h1 : ¬ q < j := fun h => by have := (hq q c hcq).2 h; rw [hil] at this; cases this
        cases q with
        | zero => omega
        | succ q =>
          obtain ⟨c0, hc0⟩ : ∃ c0, core[q]? = some c0 := ⟨_, List.getElem?_eq_getElem (by have := (List.getElem?_eq_some_iff.1 hcq).1; omega)⟩
          have h2 := chainC_get hcc hc0 hcq
          have h3 := anc_listed hcl r3 (List.all_eq_true.1 hca c hcm) c0.1 h2
          have := (hq q c0 hc0).1 h3
          omega
      subst hqj
      have hqlt := (List.getElem?_eq_some_iff.1 hcq).1
      obtain ⟨o, ho, hg, hst⟩ := hM q c hcq (fun i => l.toArray.getD i false) (anc_listed hcl r3 (List.all_eq_true.1 hca c hcm))
      obtain ⟨dst, op, ty, pos, af, gd⟩ := o
      simp only at hg hst; subst hg
      simp only [wpOpIn, ho]
      have hw : Region.wanted { dst := dst, op := op, type := ty, pos := pos, after := af, guard := none } (yielded ops a.tmps) = true := rfl
      rw [if_pos hw]
      refine wp1_in (hst g a w pos af none hr _ fun a' w' g' h' => ?_)
      rw [es]
      refine ih (l.set c.1 true) (q + 1) g' a' w' (by simpa using hl) hcl2 hn2 (by omega) (fun q' c' hc' => ?_) ?_
      · rw [hset]
        by_cases e : c.1 = c'.1
        · rw [if_pos e]
          have hqq : q' = q := by
            have h1 : (core.map (·.1))[q']? = some c'.1 := by rw [List.getElem?_map, hc']; rfl
            have h2 : (core.map (·.1))[q]? = some c'.1 := by rw [List.getElem?_map, hcq]; simp [e]
            exact (List.getElem?_inj (by simpa using (List.getElem?_eq_some_iff.1 hc').1) hnc).1 (h1.trans h2.symm)
          subst hqq
          exact ⟨fun _ => by omega, fun _ => rfl⟩
        · rw [if_neg e]
          rw [hq q' c' hc']
          have hqq : q' ≠ q := fun e2 => by subst e2; rw [hcq] at hc'; injection hc' with hc'; subst hc'; exact e rfl
          omega
      · rw [SP_congr (β' := fun i => l.toArray.getD i false) fun f hf => by rw [hset, if_neg (fun e => hdj f hf c hcm e.symm)]]
        exact h'

theorem X.drawQ {rid : Nat} {l : List Oper} {Q : Exit → St → Prop} (fl : List Fl) (core : List (Nat × List Nat)) (bs : Nat → St) (hm : P.follows .mixedOrders = true) (hp : planOk l.toArray fl core = true) (hi : Imp C st (SP (bs 0) fl fun _ => false))
    (hF : ∀ j, j ≤ core.length → PhAllA P C l.toArray core fl (bs j) j fl) (hM : ∀ j c, core[j]? = some c → ∀ β : Nat → Bool, (∀ a ∈ c.2, β a = true) → Step1 P C l.toArray c.1 (SP (bs j) fl β) (SP (bs (j + 1)) fl β)) (hend : Q .normal (SP (bs core.length) fl fun _ => true)) : X P C (.region rid l.toArray true) st Q := fun g a w hr => by
  refine wpIn_region_any hm ?_
  obtain ⟨g1, hr1⟩ := hi g a w hr
  have hr' : Rel C (SP (bs 0) fl fun _ => false) g1 a w.drew := hr1.add (nk := none) (d := none) (x := .any) (v := .nilIface) ⟨Im.le_refl _, fun _ _ => rfl, fun _ _ => rfl, Grow.drew w⟩ (fun k h => by simp at h) (fun t h => by simp at h) (.any _) hr1.sat.im hr1.sat.ob
  have hz : ∀ k, (List.replicate l.length false).toArray.getD k false = false := fun k => by
    simp only [Array.getD_eq_getD_getElem?, List.getElem?_toArray, List.getElem?_replicate]
    split <;> rfl
  have h := Rse.drawQ hp hF hM hend (nFalse (List.replicate l.length false)) (List.replicate l.length false) 0 g1 a w.drew (by simp) (fun i _ hi => by rw [hz] at hi; cases hi) rfl (Nat.zero_le _) (fun q c _ => by rw [hz]; exact ⟨fun h => (by cases h), fun h => (by omega)⟩) (by
    rw [SP_congr (β' := fun _ => false) fun f _ => hz f.i]; exact hr')
  have e1 : nFalse (List.replicate l.length false) = l.toArray.size := by simp [nFalse]
  have e2 : (List.replicate l.length false).toArray = Array.replicate l.toArray.size false := by simp
  rw [e1, e2] at h
  exact h
theorem P_slice_slH {α : Type} {enc : α → List AV} {l : List α} {E t : TypeId} {x y : Operand} {s : Nat} {kk : IntKind} {i : Int} {ag : Bool} (hx : ev st x = some (.sl enc l)) (hy : ev st y = some (.int kk i)) (ht : slOk P t E = true) (hE : tyOk P E ag s = true) (he : ∀ x, (enc x).length = s)
    (h0 : 0 ≤ i) (h1 : i ≤ l.length) : Pur P C (.slice t x none (some y) none) ty st (.sl enc (l.take i.toNat)) := fun g a w dst pos af gd hr => by
  obtain ⟨A, b, o, s', c, vs, e, hA, hc, hm, hs, hI, hv⟩ := inv_sl (ev_rv hr hx)
  have ey := inv_int (ev_rv hr hy)
  have hl : (l.take i.toNat).length = i.toNat := by rw [List.length_take]; omega
  have hb : (Instr.sliceBounds true l.length c none (some (.int kk i)) none).run P w = .ok (0, i.toNat, c) w := by
    simp [Instr.sliceBounds, Instr.sliceBound, asIntOf, h0]
    omega
  refine ⟨.slice (if c = 0 then A else A.map (·.add (0 * s))) i.toNat c, ?_, ?_⟩
  · simp [execOp, Instr.sliceAt, Instr.slice, run_underlying (slOk_under ht), e, ey, hb, run_sizeOf hE]
  · have hget : ∀ {j : Nat} {x : α}, (l.take i.toNat)[j]? = some x → l[j]? = some x := fun {j x} h => by
      rw [List.getElem?_take] at h; split at h
      · exact h
      · simp at h
    have hA2 : l.take i.toNat ≠ [] → (if c = 0 then A else A.map (·.add (0 * s))) = some ⟨b, o, none⟩ := fun hne => by
      have hl0 : l ≠ [] := fun e => hne (by rw [e]; simp)
      have := List.length_pos_iff.2 hl0
      rw [if_neg (by omega), hA hl0]
      simp [add_plain']
    have := RV.sl (I := g.I) (ρ := g.ρ) enc (l.take i.toNat) (if c = 0 then A else A.map (·.add (0 * s))) b o s' c vs hA2 (by rw [hl]; omega) hm (fun j x h => hs j x (hget h)) (fun j x q h => hI j x q (hget h)) (fun j x q cell h => hv j x q cell (hget h))
    rw [hl] at this; exact this
theorem P_slice_slT {α : Type} {enc : α → List AV} {l : List α} {E t : TypeId} {x y : Operand} {s : Nat} {kk : IntKind} {i : Int} {ag : Bool} (hx : ev st x = some (.sl enc l)) (hy : ev st y = some (.int kk i)) (ht : slOk P t E = true) (hE : tyOk P E ag s = true) (he : ∀ x, (enc x).length = s)
    (h0 : 0 ≤ i) (h1 : i ≤ l.length) : Pur P C (.slice t x (some y) none none) ty st (.sl enc (l.drop i.toNat)) := fun g a w dst pos af gd hr => by
  obtain ⟨A, b, o, s', c, vs, e, hA, hc, hm, hs, hI, hv⟩ := inv_sl (ev_rv hr hx)
  have ey := inv_int (ev_rv hr hy)
  have hl : (l.drop i.toNat).length = l.length - i.toNat := List.length_drop
  have hb : (Instr.sliceBounds true l.length c (some (.int kk i)) none none).run P w = .ok (i.toNat, l.length, c) w := by
    simp [Instr.sliceBounds, Instr.sliceBound, asIntOf, h0, h1]
  refine ⟨.slice (if c = i.toNat then A else A.map (·.add (i.toNat * s))) (l.length - i.toNat) (c - i.toNat), ?_, ?_⟩
  · simp [execOp, Instr.sliceAt, Instr.slice, run_underlying (slOk_under ht), e, ey, hb, run_sizeOf hE]
  · have hget : ∀ {j : Nat} {x : α}, (l.drop i.toNat)[j]? = some x → l[i.toNat + j]? = some x := fun {j x} h => by
      rwa [List.getElem?_drop] at h
    have hss : ∀ {j : Nat} {x : α}, (l.drop i.toNat)[j]? = some x → s' = s := fun {j x} h => (hs _ _ (hget h)).symm.trans (he x)
    have hA2 : l.drop i.toNat ≠ [] → (if c = i.toNat then A else A.map (·.add (i.toNat * s))) = some ⟨b, o + i.toNat * s, none⟩ := fun hne => by
      have hl0 : l ≠ [] := fun e => hne (by rw [e]; simp)
      have := List.length_pos_iff.2 hne
      rw [if_neg (by omega), hA hl0]
      simp [add_plain']
    have := RV.sl (I := g.I) (ρ := g.ρ) enc (l.drop i.toNat) (if c = i.toNat then A else A.map (·.add (i.toNat * s))) b (o + i.toNat * s) s (c - i.toNat) (fun j q => vs (i.toNat + j) q) hA2 (by rw [hl]; omega) (by omega) (fun j x h => he x)
      (fun j x q h hq => by
        have hq' : q < s' := by rw [hss h]; exact hq
        have := hI _ _ q (hget h) hq'
        rw [hss h, Nat.add_mul, ← Nat.add_assoc o] at this
        exact this) (fun j x q cell h => hv _ _ q cell (hget h))
    rw [hl] at this; exact this
end
end Go.Rse
