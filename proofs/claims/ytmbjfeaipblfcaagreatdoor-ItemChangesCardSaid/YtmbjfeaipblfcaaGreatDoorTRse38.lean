import Derived.Test.YtmbjfeaipblfcaaGreatDoorTLogC
namespace Go.Rse
open Go Go.RowKit
set_option linter.unusedVariables false
/-! A call that has effects, ass a step (it may be a core of a drawn region); a pointer is not nil. -/
theorem P_nilCheck_ptr {P : Program} {C : Ctx} {st : St} {ty : TypeId} {x : Operand} {k s i j : Nat} (h : ev st x = some (.ptr k s i j)) : Pur P C (.nilCheck x) ty st (.ptr k s i j) := fun g a w dst pos af gd hr => by
  have hv := ev_rv hr h
  obtain ⟨b, _, e⟩ := inv_ptr hv
  exact ⟨_, by simp [execOp, e], e ▸ hv⟩
theorem P_fieldAddr_pt {P : Program} {C : Ctx} {st : St} {ty t : TypeId} {x : Operand} {f k s i j j2 off : Nat} (h : ev st x = some (.ptr k s i j)) [ho : FoK P t f off] (e : j + off = j2) : Pur P C (.fieldAddr t x f) ty st (.ptr k s i j2) := e ▸ P_fieldAddr_ptr h ho.h
theorem RetQXI {P : Program} {C : Ctx} {rv : List ResultVar} {r : AV} {vs : List Value} {cs : List AV} {hs' : List (Nat × Blk)} {e : Exit} {st st' : St} (hi : Imp C st st') (h : RetQX P C rv r vs cs hs' e st') : RetQX P C rv r vs cs hs' e st := by
  obtain ⟨h1, ts, ex, h2, h3⟩ := h
  exact ⟨h1, ts, ex, hi.trans h2, h3⟩
theorem M_callO {P : Program} {C : Ctx} {st : St} {dst : Option Tmp} {ty : TypeId} {fop : Operand} {args : Array Operand} {ts : Array TypeId} {f : FuncId} {caps xs ass : List AV} {hs hs' : List (Nat × Blk)} {kp : List Nat} {r : AV}
    (μ : List (Nat × Nat)) (h : FnO P f ass hs kp r hs') (hf : ev st fop = some (.fn f caps)) (hx : evs st args.toList = some xs) (hμ : biOk μ = true) (hle : LeL (xs ++ caps) (ass.map (AV.ren μ))) (has : ass.all (AV.okN (keys hs)) = true) (hrn : r.okN (keys hs') = true)
    (hin : callIns st μ (keys hs) hs) (hout : ∀ p ∈ hs', (fwd μ p.1).isSome = true ∧ p.2.okNB (keys hs') = true) (hnew : ∀ p ∈ μ, kp.any (·.beq p.1) = true ∨ (hs.any (·.1.beq p.1) = true ∧ hs'.any (·.1.beq p.1) = false) ∨ (hs.any (·.1.beq p.1) = false ∧ st.fr p.2 = true))
    (hkp : ∀ n ∈ kp, hs.any (·.1.beq n) = true) (hd : dOk C.n dst = true) :
    StepM P C (.call { callee := .value fop, args := args, argTypes := ts }) ty dst st (callSt st μ hs hs' dst r) := fun g a w pos af gd hr K hK => by
  obtain ⟨us, e, hl, hu⟩ := inv_fn (ev_rv hr hf)
  have hargs := evs_rv hr hx
  have hall : RVL g.I g.ρ (ass.map (AV.ren μ)) (args.toList.map a.eval ++ us) := hle.rvl (hargs.append ⟨hl, hu⟩)
  obtain ⟨dc, hdc, hdl⟩ := fresh_id g.O w.heap.size (C.d :: C.ds) hr.sat.ob.1
  have hdcd : C.d ≠ dc := fun e => hdl (by simp [e])
  have hdcs : dc ∉ C.ds := fun e => hdl (by simp [e])
  -- the callee's view
  let ρc : Nat → Value := fun n => g.ρ ((fwd μ n).getD 0)
  let Oc := inO g.O C.d dc μ
  have hOc : ∀ b n, Oc b = some (dc, n) ↔ ∃ k, g.O b = some (C.d, k) ∧ bwd μ k = some n := fun b n => by
    simp only [Oc, inO]
    cases hO : g.O b with
    | none => simp
    | some p =>
      obtain ⟨y, k⟩ := p
      have hy : y ≠ dc := fun e => hdc b k (by rw [hO, e])
      simp only
      by_cases e : y = C.d
      · subst e
        simp only [if_true]
        cases hw : bwd μ k with
        | none => simp [hw, hy]
        | some m => simp [hw]
      · rw [if_neg e]
        simp [hy, e]
  have hOcn : ∀ b, (∀ n, Oc b ≠ some (dc, n)) → Oc b = g.O b := fun b hb => by
    have h1 := hb
    simp only [Oc, inO] at h1 ⊢
    cases hO : g.O b with
    | none => rfl
    | some p =>
      obtain ⟨y, k⟩ := p
      simp only [hO] at h1 ⊢
      by_cases e : y = C.d
      · subst e
        simp only [if_true] at h1 ⊢
        cases hw : bwd μ k with
        | none => rfl
        | some m => exact absurd (by simp [hw]) (h1 m)
      · rw [if_neg e]
  have hOcnone : ∀ b, g.O b = none → Oc b = none := fun b hb => by simp [Oc, inO, hb]
  have hsat : Sat (C0 0 dc ⟨ρc, g.I, Oc⟩ w) hs ⟨ρc, g.I, Oc⟩ w := by
    refine ⟨fun b o v hI => ⟨(hr.sat.im b o v hI).1, hOcnone b (hr.sat.im b o v hI).2⟩, ⟨fun b k hO => ?_, hr.sat.ob.2⟩, fun n B hB => ?_⟩
    · cases hO' : g.O b with
      | none => have := hOcnone b hO'; have hO : Oc b = some k := hO; rw [this] at hO; simp at hO
      | some p => exact hr.sat.ob.1 b p hO'
    · obtain ⟨k, B', h1, h2, h3, h4⟩ := callIns_lk hin hB
      refine BlkSat.moveIn (C := C) (k := k) (μ := μ) (L := keys hs) (h3 C g w k (hr.sat.blk k B' h2)) h4 rfl (by simp [ρc, h1]) (fun x v hx hv => ren_of (μ := μ) (ρ' := g.ρ) (L := keys hs) (fun n _ => rfl) hx hv) (fun b hb => ?_)
      have : Oc b = some (dc, n) := (hOc b n).2 ⟨k, hb, (bi_of hμ).1 h1⟩
      exact ⟨this, .inr ⟨n, this⟩⟩
  have hrvl : RVL g.I ρc ass (args.toList.map a.eval ++ us) := by
    refine ⟨by rw [hall.1]; simp, fun j c v hc hv => ?_⟩
    exact ren_of (μ := μ) (ρ' := g.ρ) (L := keys hs) (fun n _ => rfl) (List.all_eq_true.1 has c (List.mem_of_getElem? hc)) (hall.2 j _ v (by rw [List.getElem?_map, hc]; rfl) hv)
  have h0 := h.2 dc ρc g.I Oc w _ hsat hrvl
  have e1 : (args.toList.map a.eval ++ us).toArray = args.map a.eval ++ us.toArray := by simp [← Array.toList_map]
  rw [e1] at h0
  have e2 : (execOp a.eval { dst := dst, op := .call { callee := .value fop, args := args, argTypes := ts }, type := ty, pos := pos, after := af, guard := gd }).run P w = .ok (.enter f (args.map a.eval ++ us.toArray)) w := by
    simp only [execOp, resolve, e, Deferred.ofValue, Sem.run_bind, Sem.run_pure, Result.andThen_ok, invoke, run_callFunc h.1]
    simp
  unfold wp1
  rw [e2]
  refine Calls.mono h0 ?_
  rintro e w' ⟨v, ρ', I', O', rfl, hs1, hv1, hx1, hkp1⟩
  refine ⟨v, rfl, ?_⟩
  -- the caller's view again
  let On := outO O' C.d dc μ
  let ρn : Nat → Value := fun k => match bwd μ k with
    | some n => if hs'.any (·.1.beq n) = true then ρ' n else g.ρ k
    | none => g.ρ k
  have hOn1 : ∀ b n k, O' b = some (dc, n) → fwd μ n = some k → On b = some (C.d, k) := fun b n k h1 h2 => by simp [On, outO, h1, h2]
  have hOn2 : ∀ b y n, O' b = some (y, n) → y ≠ dc → On b = some (y, n) := fun b y n h1 h2 => by simp [On, outO, h1, h2]
  have hOn0 : ∀ b, O' b = none → On b = none := fun b h1 => by simp [On, outO, h1]
  have hOni : ∀ b y k, On b = some (y, k) → (y = C.d ∧ ∃ n, O' b = some (dc, n)) ∨ (y ≠ dc ∧ O' b = some (y, k)) := fun b y k hb => by
    cases hO : O' b with
    | none => rw [hOn0 b hO] at hb; simp at hb
    | some p =>
      obtain ⟨y', n⟩ := p
      by_cases e : y' = dc
      · subst e
        cases hf : fwd μ n with
        | none => simp [On, outO, hO, hf] at hb
        | some k' => rw [hOn1 b n k' hO hf] at hb; injection hb with hb; injection hb with e1 e2; exact .inl ⟨e1.symm, n, rfl⟩
      · rw [hOn2 b y' n hO e] at hb; injection hb with hb; injection hb with e1 e2; subst e1; subst e2; exact .inr ⟨e, rfl⟩
  -- what the callee has left
  have hkeep : ∀ b, b < w.heap.size → (∀ n, Oc b ≠ some (dc, n)) → w'.heap[b]? = w.heap[b]? ∧ On b = g.O b := fun b hb hno => by
    obtain ⟨p1, p2⟩ := hx1.keep b hb (fun hk => by
      rcases hk with hk | ⟨n, hk⟩
      · exact absurd hk (Nat.not_le.2 hb)
      · exact hno n hk) (fun ⟨y, n, hy, _⟩ => by simp at hy)
    have p2 : O' b = Oc b := p2
    rw [hOcn b hno] at p2
    refine ⟨p1, ?_⟩
    cases hO : g.O b with
    | none => exact hOn0 b (p2.trans hO)
    | some p => exact hOn2 b p.1 p.2 (p2.trans hO) (fun e => hdc b p.2 (by rw [hO, ← e]))
  have hother : ∀ b y k, g.O b = some (y, k) → y ≠ C.d → ∀ n, Oc b ≠ some (dc, n) := fun b y k hO hy n hn => by
    obtain ⟨k', h1, _⟩ := (hOc b n).1 hn
    rw [hO] at h1; injection h1 with h1; injection h1 with h1 _; exact hy h1
  have hio : ImO I' On w' := by
    refine ⟨fun b o u hI => ⟨(hs1.im b o u hI).1, hOn0 b (hs1.im b o u hI).2⟩, fun b k hO => ?_, hs1.ob.2⟩
    rcases hOni b k.1 k.2 hO with ⟨_, n, hn⟩ | ⟨_, hn⟩
    · exact hs1.ob.1 b _ hn
    · exact hs1.ob.1 b _ hn
  have hown : ∀ b y n, b < w.heap.size → On b = some (y, n) → ∃ n', g.O b = some (y, n') := fun b y n hb hO => by
    rcases hOni b y n hO with ⟨rfl, m, hm⟩ | ⟨hy, hm⟩
    · obtain ⟨n', hn'⟩ := hx1.own b dc m hb hm
      obtain ⟨k, h1, _⟩ := (hOc b n').1 hn'
      exact ⟨k, h1⟩
    · obtain ⟨n', hn'⟩ := hx1.own b y n hb hm
      have hn' : Oc b = some (y, n') := hn'
      rw [hOcn b (fun m hm' => by rw [hm'] at hn'; injection hn' with hn'; injection hn' with e _; exact hy e.symm)] at hn'
      exact ⟨n', hn'⟩
  -- names whose meaning has changed are new
  let ch := (μ.filter fun p => !(hs.any (·.1.beq p.1))).map (·.2)
  have hch : ∀ k ∈ ch, st.fr k = true := fun k hk => by
    obtain ⟨p, hp, rfl⟩ := List.mem_map.1 hk
    rw [List.mem_filter] at hp
    have h2 : hs.any (·.1.beq p.1) = false := by simpa using hp.2
    rcases hnew p hp.1 with h1 | h1 | h1
    · obtain ⟨n, hn, e⟩ := List.any_eq_true.1 h1
      have : n = p.1 := by simpa using e
      rw [← this, hkp n hn] at h2; simp at h2
    · rw [h2] at h1; simp at h1
    · exact h1.2
  have hρn : ∀ k, k ∉ ch → ρn k = g.ρ k := fun k hk => by
    simp only [ρn]
    cases hb : bwd μ k with
    | none => rfl
    | some n =>
      have hf := (bi_of hμ).2 hb
      simp only
      split
      · rename_i ho
        have hm := bwd_mem hb
        rcases hnew (n, k) hm with h1 | h1 | h1
        · obtain ⟨m, hmk, e⟩ := List.any_eq_true.1 h1
          have : m = n := by simpa using e
          subst this
          rw [hkp1 m hmk]; simp [ρc, hf]
        · have h1 : hs.any (·.1.beq n) = true ∧ hs'.any (·.1.beq n) = false := h1
          rw [ho] at h1; simp at h1
        · exact absurd (List.mem_map.2 ⟨(n, k), List.mem_filter.2 ⟨hm, by simp [show hs.any (·.1.beq n) = false from h1.1]⟩, rfl⟩) hk
      · rfl
  have hfrT : ∀ t x, lk st.t t = some x → ∀ k ∈ ch, x.fr k = true := fun t x hx k hk => frT_lk (by have := hch k hk; simp [St.fr] at this; exact this.1) hx
  have hfrH : ∀ n B, lk st.h n = some B → ∀ k ∈ ch, B.fr k = true ∧ n ≠ k := fun n B hB k hk => frH_lk (by have := hch k hk; simp [St.fr] at this; exact this.2) hB
  have htm : ∀ t x, lk st.t t = some x → RV I' ρn x (a.tmps.getD t undef) := fun t x hx => ((hr.tmps t x hx).renameL (hfrT t x hx) hρn).mono hx1.I
  have hext : Ext C ⟨ρn, I', On⟩ w' := by
    refine ⟨Im.le_trans hr.ext.I hx1.I, hx1.os.trans hr.ext.os, hx1.tape.trans hr.ext.tape, hx1.output.trans hr.ext.output, Nat.le_trans hr.ext.drawn hx1.drawn, Nat.le_trans hr.ext.size hx1.size, fun b hb hn ho => ?_, fun b y n hb hO => ?_⟩
    · obtain ⟨p1, p2⟩ := hr.ext.keep b hb hn ho
      obtain ⟨q1, q2⟩ := hkeep b (Nat.lt_of_lt_of_le hb hr.ext.size) (fun n hn' => by
        obtain ⟨k, h1, _⟩ := (hOc b n).1 hn'
        exact hn (hr.ext.okb b k h1))
      exact ⟨q1.trans p1, q2.trans p2⟩
    · obtain ⟨n', hn'⟩ := hown b y n (Nat.lt_of_lt_of_le hb hr.ext.size) hO
      exact hr.ext.own b y n' hb hn'
  have hdf : Dfs C ⟨ρn, I', On⟩ a.defers w' := by
    obtain ⟨D, p1, hn, p2⟩ := hr.defers
    refine ⟨D, p1, hn, fun q hq => ?_⟩
    obtain ⟨p3, p4, p5⟩ := p2 q hq
    obtain ⟨q1, q2⟩ := hkeep q (heap_lt p3) (fun n hn' => by rw [hOcnone q p4] at hn'; simp at hn')
    exact ⟨q1.trans p3, q2.trans p4, p5⟩
  have hren : ∀ n ∈ keys hs', ρn ((fwd μ n).getD 0) = ρ' n := fun n hn => by
    obtain ⟨p, hp, rfl⟩ := List.mem_map.1 hn
    obtain ⟨k, hk⟩ := Option.isSome_iff_exists.1 (hout p hp).1
    simp only [hk, Option.getD_some, ρn, (bi_of hμ).1 hk]
    rw [if_pos (List.any_eq_true.2 ⟨p, hp, by simp⟩)]
  have hblk : ∀ k B, lk (outB μ hs' ++ (goneB μ hs' hs ++ st.h)) k = some B → BlkSat C ⟨ρn, I', On⟩ w' k B := fun k B hB => by
    rw [lk_append] at hB
    cases hob : lk (outB μ hs') k with
    | some B1 =>
      simp only [hob] at hB
      injection hB with hB; subst hB
      obtain ⟨n, B2, h1, h2, rfl⟩ := outB_lk hμ (fun p hp => (hout p hp).1) hob
      have hmem : ∃ p ∈ hs', p.1 = n ∧ p.2 = B2 := ⟨_, lk_mem h2, rfl, rfl⟩
      obtain ⟨p, hp, rfl, rfl⟩ := hmem
      have hin' : hs'.any (·.1.beq p.1) = true := lk_any.2 ⟨_, h2⟩
      refine BlkSat.moveOut (C := C0 0 dc ⟨ρc, g.I, Oc⟩ w) (g := ⟨ρ', I', O'⟩) (n := p.1) (L := keys hs') (hs1.blk p.1 p.2 h2) (hout p hp).2 rfl ?_ (fun x v hx hv => ren_to (L := keys hs') hren hx hv) (fun b hb => ?_)
      · simp only [ρn, (bi_of hμ).1 h1, if_pos hin']
      · have := hOn1 b p.1 k hb h1
        exact ⟨this, hext.okb b k this⟩
    | none =>
      simp only [hob] at hB
      rw [lk_append] at hB
      cases hgb : lk (goneB μ hs' hs) k with
      | some B1 =>
        simp only [hgb] at hB
        injection hB with hB; subst hB
        rw [goneB_dead hgb]; trivial
      | none =>
        simp only [hgb] at hB
        have h0 := hr.sat.blk k B hB
        -- k is none of those handed over
        have hnk : ∀ b, g.O b = some (C.d, k) → ∀ n, Oc b ≠ some (dc, n) := fun b hb n hn => by
          obtain ⟨k', h1, h2⟩ := (hOc b n).1 hn
          rw [hb] at h1; injection h1 with h1; injection h1 with _ h1; subst h1
          have hf := (bi_of hμ).2 h2
          have hno : ¬ ∃ B, lk hs' n = some B := fun ho => by
            obtain ⟨B2, hB2⟩ := outB_has hf ho
            rw [hob] at hB2; simp at hB2
          have hno2 : ¬ ∃ B, lk hs n = some B := fun ho => by
            have hn0 : lk hs' n = none := by
              cases hc : lk hs' n with
              | none => rfl
              | some x => exact absurd ⟨x, hc⟩ hno
            obtain ⟨B2, hB2⟩ := goneB_has hf ho hn0
            rw [hgb] at hB2; simp at hB2
          rcases hnew (n, k) (bwd_mem h2) with h1 | h1 | h1
          · obtain ⟨m, hmk, e⟩ := List.any_eq_true.1 h1
            have : m = n := by simpa using e
            subst this
            exact hno2 (lk_any.1 (hkp m hmk))
          · exact hno2 (lk_any.1 h1.1)
          · have := h1.2
            simp [St.fr] at this
            exact (frH_lk this.2 hB).2 rfl
        have hk' : k ∉ ch := fun hk => (hfrH k B hB k hk).2 rfl
        refine h0.held hx1.I (fun b hb hO => hkeep b hb (hnk b hO)) (hρn k hk') (fun x v hx hv => hv.renameL hx hρn) (fun k' hk' => (hfrH k B hB k' hk').1) ?_
        intro j on hBy
        subst hBy
        obtain ⟨h1, h2, h3, h4, h5⟩ := h0
        refine ⟨h1, h2, h3, fun b n hO => ?_, h2 j on _ _ _ _ _ _ h5 hx1.I (fun b hb hy => hkeep b hb (fun n hn => ?_)) hx1.os hx1.tape hx1.output hx1.drawn hx1.size hio⟩
        · rcases Nat.lt_or_ge b w.heap.size with hl | hl
          · obtain ⟨n', hn'⟩ := hown b C.d n hl hO
            exact h4 b n' hn'
          · have := hr.ext.size; omega
        · obtain ⟨k', p1, _⟩ := (hOc b n).1 hn
          rcases hy with hy | ⟨y, m, hy, hm⟩
          · have := h4 b k' p1; omega
          · rw [p1] at hm; injection hm with hm; injection hm with e _; exact h1 (e ▸ hy)
  have hv2 : RV I' ρn (r.ren μ) v := by
    refine ren_to (L := keys hs') (fun n hn => ?_) hrn hv1
    obtain ⟨p, hp, rfl⟩ := List.mem_map.1 hn
    obtain ⟨k, hk⟩ := Option.isSome_iff_exists.1 (hout p hp).1
    simp only [hk, Option.getD_some, ρn, (bi_of hμ).1 hk]
    rw [if_pos (List.any_eq_true.2 ⟨p, hp, by simp⟩)]
  refine hK _ _ ⟨ρn, I', On⟩ ?_
  show Rel C (callSt st μ hs hs' dst r) ⟨ρn, I', On⟩ (a.put dst v) w'
  cases dst with
  | none => exact ⟨hr.size, hdf, htm, ⟨hio.1, hio.2, hblk⟩, hext⟩
  | some d =>
    refine ⟨by simp [Act.put, hr.size], hdf, fun t y hy => ?_, ⟨hio.1, hio.2, hblk⟩, hext⟩
    rw [getD_put (by rw [hr.size]; simpa [dOk] using hd)]
    simp only [callSt, consT, lk_cons] at hy
    by_cases e : d = t
    · subst e; simp at hy; rw [if_pos rfl, ← hy]; exact hv2
    · have : d.beq t = false := beqF.2 e
      simp [this] at hy
      rw [if_neg e]; exact htm t y hy
/-- The nil slice in a field of a box, as an empty row of one's own. -/
theorem Imp.mkrowC {C : Ctx} {st : St} {α : Type} (enc : α → List AV) (E s b k i E0 : Nat) (cs cs2 : List AV) (ht : lk st.h b = some (.box cs E0)) (hi : cs[i]? = some .nils) (h2' : cs.set i (.own k) = cs2) (hf : st.fr k = true) : Imp C st { t := st.t, h := (b, .box cs2 E0) :: (k, .row enc [] E s) :: st.h } := fun g a w hr => by
  subst h2'
  have hbk : b ≠ k := fun e => by
    subst e
    simp [St.fr] at hf
    exact (frH_lk hf.2 ht).2 rfl
  have ha : Add (some k) g w { ρ := fun n => if n = k then .slice none 0 0 else g.ρ n, I := g.I, O := g.O } w := ⟨Im.le_refl _, fun n hn => by
    have : n ≠ k := fun e => hn (by rw [e])
    simp [this], fun _ _ => rfl, Grow.refl w⟩
  have h1 := hr.add (d := none) (x := .any) (v := .nilIface) ha (fun n hn => by injection hn with hn; subst hn; exact hf) (fun t h => by simp at h) (.any _) hr.sat.im hr.sat.ob
  have h2 := h1.withBlk (k := k) (B := .row enc [] E s) ⟨[], ⟨by simp, .inl ⟨by simp, rfl⟩⟩, fun i x h => by simp at h, fun i x j c v h => by simp at h, fun b hb => by simp [blkOf] at hb⟩
  have hlk : lk ((k, Blk.row enc [] E s) :: st.h) b = some (.box cs E0) := by
    have : k.beq b = false := beqF.2 fun e => hbk e.symm
    simp [lk_cons, this, ht]
  obtain ⟨b1, vs, e1, e2, e3, e4, e5, e6⟩ := h2.sat.blk b _ hlk
  refine ⟨_, h2.withBlk (k := b) (B := .box (cs.set i (.own k)) E0) ⟨b1, vs, e1, e2, e3, e4, by simpa using e5, fun j c v hc hv => ?_⟩⟩
  rw [List.getElem?_set] at hc
  split at hc
  · rename_i hij
    subst hij
    split at hc
    · injection hc with hc; subst hc
      have := inv_nils (e6 i .nils v hi hv)
      rw [this]
      exact .own k none 0 0 (by simp)
    · simp at hc
  · exact e6 j c v hc hv
/-- M_callO with what is to be reckoned done. -/
theorem M_co {P : Program} {C : Ctx} {st : St} {dst : Option Tmp} {ty : TypeId} {fop : Operand} {args : Array Operand} {ts : Array TypeId} {f : FuncId} {caps xs as' : List AV} {hs hs' : List (Nat × Blk)} {kp : List Nat} {r : AV}
    (μ : List (Nat × Nat)) (h : FnO P f as' hs kp r hs') (hf : ev st fop = some (.fn f caps) := by exact rfl) (hx : evs st args.toList = some xs := by exact rfl) (hμ : biOk μ = true := by exact rfl) (hle : LeL (xs ++ caps) (as'.map (AV.ren μ)) := by exact LeL.refl _) (has : as'.all (AV.okN (keys hs)) = true := by exact rfl) (hrn : r.okN (keys hs') = true := by exact rfl)
    (hin : callIns st μ (keys hs) hs := by repeat' (first | exact True.intro | refine And.intro ⟨_, _, rfl, rfl, LeB.refl _, rfl⟩ ?_)) (hout : (hs'.all fun p => (fwd μ p.1).isSome && p.2.okNB (keys hs')) = true := by exact rfl)
    (hnew : (μ.all fun p => kp.any (·.beq p.1) || (hs.any (·.1.beq p.1) && !(hs'.any (·.1.beq p.1))) || (!(hs.any (·.1.beq p.1)) && st.fr p.2)) = true := by exact rfl)
    (hkp : (kp.all fun n => hs.any (·.1.beq n)) = true := by exact rfl) (hd : dOk C.n dst = true := by exact rfl) :
    StepM P C (.call { callee := .value fop, args := args, argTypes := ts }) ty dst st (callSt st μ hs hs' dst r) := by
  refine M_callO μ h hf hx hμ hle has hrn hin (fun p hp => ?_) (fun p hp => ?_) (fun n hn => List.all_eq_true.1 hkp n hn) hd
  · have := List.all_eq_true.1 hout p hp
    simpa using this
  · have := List.all_eq_true.1 hnew p hp
    simp only [Bool.or_eq_true, Bool.and_eq_true, Bool.not_eq_true'] at this
    rcases this with (h1 | h1) | h1
    · exact .inl h1
    · exact .inr (.inl h1)
    · exact .inr (.inr h1)
end Go.Rse
