/-
  A state turned into a weaker one; an empty row; rows and boxes let go; a store into a row; calls.
-/
import Derived.Test.YteecbmgddacioaaRse7
namespace Go.Rse
open Go Go.RowKit
set_option linter.unusedVariables false

/-- Whatever meets st meets st'. -/
def Imp (C : Ctx) (st st' : St) : Prop := ∀ g a w, Rel C st g a w → ∃ g', Rel C st' g' a w
theorem Imp.refl {C : Ctx} {st : St} : Imp C st st := fun g a w h => ⟨g, h⟩
theorem Imp.trans {C : Ctx} {st st' st'' : St} (h : Imp C st st') (h' : Imp C st' st'') : Imp C st st'' := fun g a w hr => let ⟨g', h1⟩ := h g a w hr; h' g' a w h1
theorem X.imp {P : Program} {C : Ctx} {c : Code} {st st' : St} {Q : Exit → St → Prop} (h : Imp C st st') (hx : X P C c st' Q) : X P C c st Q := fun g a w hr => let ⟨g', h1⟩ := h g a w hr; hx g' a w h1
theorem Ex.imp {P : Program} {C : Ctx} {ops : Array Oper} {l : List Oper} {st st' : St} {Q : Exit → St → Prop} (h : Imp C st st') (hx : Ex P C ops l st' Q) : Ex P C ops l st Q := fun g a w hr => let ⟨g', h1⟩ := h g a w hr; hx g' a w h1

def LeV (x y : AV) : Prop := ∀ (I : Im) (ρ : Nat → Value) (v : Value), RV I ρ x v → RV I ρ y v
theorem LeV.refl (x : AV) : LeV x x := fun _ _ _ h => h
theorem LeV.eq {x y : AV} (h : x = y) : LeV x y := h ▸ LeV.refl x
theorem LeV.any (x : AV) : LeV x .any := fun _ _ v _ => .any v
theorem LeV.nils {α : Type} (enc : α → List AV) : LeV .nils (.sl enc []) := fun I ρ v h => by
  rw [inv_nils h]
  exact .sl enc [] none 0 0 0 0 (fun _ _ => .nilIface) (fun h => absurd rfl h) (Nat.le_refl _) (Nat.zero_le _) (fun i x h => by simp at h) (fun i x j h => by simp at h) (fun i x j c h => by simp at h)
theorem LeV.ifb {x y : AV} (h : LeV x y) : LeV (.ifb true x) y := fun I ρ v hv => h I ρ v (inv_ifb hv rfl)
inductive LeL : List AV → List AV → Prop
  | nil : LeL [] []
  | cons {x y : AV} {xs ys : List AV} (h : LeV x y) (hs : LeL xs ys) : LeL (x :: xs) (y :: ys)
theorem LeL.refl : ∀ xs, LeL xs xs
  | [] => .nil
  | x :: r => .cons (LeV.refl x) (LeL.refl r)
theorem LeL.rvl {I : Im} {ρ : Nat → Value} {xs ys : List AV} (h : LeL xs ys) : ∀ {vs : List Value}, RVL I ρ xs vs → RVL I ρ ys vs := by
  induction h with
  | nil => intro vs h; exact h
  | cons hx hs ih =>
    intro vs h
    cases vs with
    | nil => have := h.1; simp at this
    | cons v r =>
      have ih' := ih (vs := r) ⟨by simpa using h.1, fun j c u hc hu => h.2 (j + 1) c u (by simpa using hc) (by simpa using hu)⟩
      refine ⟨by simpa using ih'.1, fun j c u hc hu => ?_⟩
      cases j with
      | zero => simp at hc hu; subst hc; subst hu; exact hx I ρ v (h.2 0 _ v (by simp) (by simp))
      | succ j => exact ih'.2 j c u (by simpa using hc) (by simpa using hu)

def LeB (B B' : Blk) : Prop := ∀ (C : Ctx) (g : Gh) (w : World) (k : Nat), BlkSat C g w k B → BlkSat C g w k B'
theorem LeB.refl (B : Blk) : LeB B B := fun _ _ _ _ h => h
theorem LeB.eq {B B' : Blk} (h : B = B') : LeB B B' := h ▸ LeB.refl B
theorem LeB.row {α : Type} {enc : α → List AV} {l l' : List α} {E : TypeId} {s : Nat} (h : l = l') : LeB (.row enc l E s) (.row enc l' E s) := h ▸ LeB.refl _
theorem LeB.box {cs cs' : List AV} {E : TypeId} (h : LeL cs cs') : LeB (.box cs E) (.box cs' E) := fun C g w k hb => by
  obtain ⟨b, vs, h1, h2, h3, h4, h5, h6⟩ := hb
  have := h.rvl (I := g.I) (ρ := g.ρ) (vs := vs.toList) ⟨by simpa using h5, fun j c v hc hv => h6 j c v hc (by simpa using hv)⟩
  exact ⟨b, vs, h1, h2, h3, h4, by simpa using this.1, fun j c v hc hv => this.2 j c v hc (by simpa using hv)⟩

def impT (st : St) : List (Nat × AV) → Prop
  | [] => True
  | (t, x) :: r => (∃ y, lk st.t t = some y ∧ LeV y x) ∧ impT st r
def impH (st : St) : List (Nat × Blk) → Prop
  | [] => True
  | (k, B) :: r => (∃ B', lk st.h k = some B' ∧ LeB B' B) ∧ impH st r
theorem impT_lk {st : St} : ∀ {l : List (Nat × AV)}, impT st l → ∀ {t : Nat} {x : AV}, lk l t = some x → ∃ y, lk st.t t = some y ∧ LeV y x
  | [], _, _, _, h => by simp [lk] at h
  | (t', x') :: r, h, t, x, e => by
    simp only [lk_cons] at e
    cases hb : t'.beq t <;> simp [hb] at e
    · exact impT_lk h.2 e
    · have : t' = t := by simpa using hb
      subst this; subst e; exact h.1
theorem impH_lk {st : St} : ∀ {l : List (Nat × Blk)}, impH st l → ∀ {t : Nat} {x : Blk}, lk l t = some x → ∃ y, lk st.h t = some y ∧ LeB y x
  | [], _, _, _, h => by simp [lk] at h
  | (t', x') :: r, h, t, x, e => by
    simp only [lk_cons] at e
    cases hb : t'.beq t <;> simp [hb] at e
    · exact impH_lk h.2 e
    · have : t' = t := by simpa using hb
      subst this; subst e; exact h.1
theorem Imp.of {C : Ctx} {st : St} {ts : List (Nat × AV)} {hs : List (Nat × Blk)} (h1 : impT st ts) (h2 : impH st hs) : Imp C st ⟨ts, hs⟩ := fun g a w hr =>
  ⟨g, hr.size, hr.defers, fun t x hx => let ⟨y, hy, hle⟩ := impT_lk h1 hx; hle _ _ _ (hr.tmps t y hy), ⟨hr.sat.im, hr.sat.ob, fun k B hB => let ⟨B', hB', hle⟩ := impH_lk h2 hB; hle C g w k (hr.sat.blk k B' hB')⟩, hr.ext⟩

/-- Slot t holds nil: an empty row. -/
theorem Imp.mkrow {C : Ctx} {st : St} {α : Type} (enc : α → List AV) (E s t k : Nat) (ht : lk st.t t = some .nils) (hf : st.fr k = true) : Imp C st { t := (t, .own k) :: st.t, h := (k, .row enc [] E s) :: st.h } := fun g a w hr => by
  have hv := inv_nils (hr.tmps t _ ht)
  have ha : Add (some k) g w { ρ := fun n => if n = k then .slice none 0 0 else g.ρ n, I := g.I, O := g.O } w := ⟨Im.le_refl _, fun n hn => by
    have : n ≠ k := fun e => hn (by rw [e])
    simp [this], fun _ _ => rfl, Grow.refl w⟩
  have h1 := hr.add (d := none) (x := .any) (v := .nilIface) ha (fun n hn => by injection hn with hn; subst hn; exact hf) (fun t h => by simp at h) (.any _) hr.sat.im hr.sat.ob
  refine ⟨_, h1.size, h1.defers, fun t' x hx => ?_, (h1.withBlk (k := k) (B := .row enc [] E s) ⟨[], ⟨by simp, .inl ⟨by simp, rfl⟩⟩, fun i x h => by simp at h, fun i x j c v h => by simp at h, fun b hb => by simp [blkOf] at hb⟩).sat, h1.ext⟩
  simp only [lk_cons] at hx
  cases hb : t.beq t' <;> simp [hb] at hx
  · exact h1.tmps t' x hx
  · have : t = t' := by simpa using hb
    subst this; subst hx
    show RV _ _ _ (a.tmps.getD t undef)
    rw [hv]
    exact .own k none 0 0 (by simp)

def frz {α : Type} (k : Nat) (enc : α → List AV) (l : List α) : AV → AV
  | .own k' => bif k'.beq k then .sl enc l else .own k'
  | x => cln k x
def mapT (f : AV → AV) : List (Nat × AV) → List (Nat × AV)
  | [] => []
  | (t, x) :: r => (t, f x) :: mapT f r
def mapB (f : AV → AV) : Blk → Blk
  | .box cs E => .box (cs.map f) E
  | .hold vs cs => .hold vs (cs.map f)
  | B => B
def mapH (f : AV → AV) : List (Nat × Blk) → List (Nat × Blk)
  | [] => []
  | (n, B) :: r => (n, mapB f B) :: mapH f r
theorem lk_mapT (f : AV → AV) (t : Nat) : ∀ l, lk (mapT f l) t = (lk l t).map f
  | [] => rfl
  | (t', x) :: r => by
    simp only [mapT, lk_cons]
    cases t'.beq t <;> simp [lk_mapT f t r]
theorem lk_mapH (f : AV → AV) (t : Nat) : ∀ l, lk (mapH f l) t = (lk l t).map (mapB f)
  | [] => rfl
  | (t', x) :: r => by
    simp only [mapH, lk_cons]
    cases t'.beq t <;> simp [lk_mapH f t r]

/-- Block b of name k is let go: what it holds is known for good. -/
theorem Rel.letgo {C : Ctx} {st : St} {g : Gh} {a : Act} {w : World} (h : Rel C st g a w) {k : Nat} {b : Nat} {J : Nat → Option Value} (f : AV → AV) (hb : g.O b = some (C.d, k) ∧ C.okb b) (hJ : ∀ o v, J o = some v → w.cell? ⟨b, o, none⟩ = some v)
    (hf : ∀ x v, RV g.I g.ρ x v → RV (fun b' o => if b' = b then J o else g.I b' o) g.ρ (f x) v) :
    Rel C { t := mapT f st.t, h := (k, .dead) :: mapH f st.h } { ρ := g.ρ, I := fun b' o => if b' = b then J o else g.I b' o, O := fun b' => if b' = b then none else g.O b' } a w := by
  have hle : Im.le g.I (fun b' o => if b' = b then J o else g.I b' o) := fun b' o v hI => by
    have : b' ≠ b := fun e => by have := (h.sat.im b' o v hI).2; rw [e, hb.1] at this; simp at this
    simp [this, hI]
  have hdf : Dfs C { ρ := g.ρ, I := fun b' o => if b' = b then J o else g.I b' o, O := fun b' => if b' = b then none else g.O b' } a.defers w := by
    obtain ⟨D, h1, hn, h2⟩ := h.defers
    refine ⟨D, h1, hn, fun r hr => ?_⟩
    obtain ⟨h3, h4, h5⟩ := h2 r hr
    exact ⟨h3, by dsimp only; split; rfl; exact h4, h5⟩
  have hio : ImOB { ρ := g.ρ, I := fun b' o => if b' = b then J o else g.I b' o, O := fun b' => if b' = b then none else g.O b' } w := by
    refine ⟨fun b' o u hI => ?_, fun b' k' hO => ?_⟩
    · by_cases e : b' = b
      · subst e
        simp at hI
        exact ⟨hJ o u hI, by simp⟩
      · simp [e] at hI
        simp only [e, if_false]
        exact h.sat.im b' o u hI
    · simp only at hO
      split at hO
      · simp at hO
      · exact h.sat.ob b' k' hO
  refine ⟨h.size, hdf, fun t x hx => ?_, ⟨hio.1, hio.2, fun k' B hB => ?_⟩, ?_⟩
  · rw [lk_mapT] at hx
    cases hz : lk st.t t with
    | none => simp [hz] at hx
    | some z => simp [hz] at hx; subst hx; exact hf z _ (h.tmps t z hz)
  · simp only [lk_cons] at hB
    cases hbq : k.beq k' <;> simp [hbq] at hB
    · have hkk : k' ≠ k := fun e => by subst e; simp at hbq
      rw [lk_mapH] at hB
      cases hz : lk st.h k' with
      | none => simp [hz] at hB
      | some B0 =>
        simp [hz] at hB; subst hB
        have h0 := h.sat.blk k' B0 hz
        cases B0 with
        | box cs E =>
          obtain ⟨b2, vs, h1, h2, h3, h4, h5, h6⟩ := h0
          have hne : b2 ≠ b := fun e => hkk (by rw [e, hb.1] at h2; simpa using h2.symm)
          refine ⟨b2, vs, h1, by simpa [hne] using h2, h3, h4, by simpa using h5, fun j c v hc hv => ?_⟩
          rw [List.getElem?_map] at hc
          cases hc0 : cs[j]? with
          | none => simp [hc0] at hc
          | some c0 => simp [hc0] at hc; subst hc; exact hf c0 v (h6 j c0 v hc0 hv)
        | row enc l E s =>
          obtain ⟨xs, h1, h2, h3, h4⟩ := h0
          refine ⟨xs, h1, h2, fun i x j c v hx hc hv => (h3 i x j c v hx hc hv).mono hle, fun b2 hb2 => ?_⟩
          obtain ⟨h5, h6⟩ := h4 b2 hb2
          have hne : b2 ≠ b := fun e => hkk (by rw [e, hb.1] at h5; simpa using h5.symm)
          exact ⟨by simpa [hne] using h5, h6⟩
        | hold vs cs =>
          refine ⟨by simpa using h0.1, fun j c v hc hv => ?_⟩
          rw [List.getElem?_map] at hc
          cases hc0 : cs[j]? with
          | none => simp [hc0] at hc
          | some c0 => simp [hc0] at hc; subst hc; exact hf c0 v (h0.2 j c0 v hc0 hv)
        | obj b2 o =>
          obtain ⟨h1, h2, h3⟩ := h0
          have hne : b2 ≠ b := fun e => hkk (by rw [e, hb.1] at h2; simpa using h2.symm)
          exact ⟨h1, by simpa [hne] using h2, h3⟩
        | yld j on =>
          refine yld_far (bo := some b) h0 hle (fun b' _ hne => ?_) (fun b' e => by injection e with e; subst e; exact .inl ⟨k, hb.1⟩) ⟨rfl, rfl, rfl, Nat.le_refl _, fun _ _ _ => rfl⟩ (fun b' n hn => ?_) hio
          · have : b' ≠ b := fun e => hne (by rw [e])
            simp [this]
          · simp only at hn
            split at hn
            · simp at hn
            · exact h0.2.2.2.1 b' n hn
        | dead => trivial
    · subst hB; trivial
  · exact ⟨Im.le_trans h.ext.I hle, h.ext.os, h.ext.tape, h.ext.output, h.ext.size, fun b' hb' hn ho => by
      have hne : b' ≠ b := fun e => hn (e ▸ hb.2)
      obtain ⟨h1, h2⟩ := h.ext.keep b' hb' hn ho
      exact ⟨h1, by simp [hne, h2]⟩, fun b' y n hlt hy => by
        simp only at hy
        split at hy
        · simp at hy
        · exact h.ext.own b' y n hlt hy⟩

/-- The row of name k is let go. -/
theorem Imp.freeze {C : Ctx} {st : St} {α : Type} {enc : α → List AV} {l : List α} {E s k : Nat} (hk : lk st.h k = some (.row enc l E s)) : Imp C st { t := mapT (frz k enc l) st.t, h := (k, .dead) :: mapH (frz k enc l) st.h } := fun g a w hr => by
  obtain ⟨xs, hw, h1, h2, h3⟩ := hr.sat.blk k _ hk
  rcases hw.2 with ⟨e, h0⟩ | ⟨b, cap, cur, e, _, hh, hnc, hcm, hcur, htk⟩
  · have hn0 : l = [] := List.eq_nil_of_length_eq_zero h0
    subst hn0
    have hfz : ∀ x v, RV g.I g.ρ x v → RV g.I g.ρ (frz k enc [] x) v := fun x v hx => by
      have hcl : RV g.I g.ρ (cln k x) v := hx.cln (fun _ _ => rfl)
      cases x <;> try exact hcl
      case own k' =>
        simp only [frz]
        cases hb : k'.beq k with
        | false => exact hx
        | true =>
          have : k' = k := by simpa using hb
          subst this
          have := inv_own hx
          rw [e] at this
          subst this
          exact .sl enc [] none 0 0 0 0 (fun _ _ => .nilIface) (fun h => absurd rfl h) (Nat.le_refl _) (Nat.zero_le _) (fun i x h => by simp at h) (fun i x j h => by simp at h) (fun i x j c h => by simp at h)
    refine ⟨g, hr.size, hr.defers, fun t x hx => ?_, ⟨hr.sat.im, hr.sat.ob, fun k' B hB => ?_⟩, hr.ext⟩
    · rw [lk_mapT] at hx
      cases hz : lk st.t t with
      | none => simp [hz] at hx
      | some z => simp [hz] at hx; subst hx; exact hfz z _ (hr.tmps t z hz)
    · simp only [lk_cons] at hB
      cases hbq : k.beq k' <;> simp [hbq] at hB
      · rw [lk_mapH] at hB
        cases hz : lk st.h k' with
        | none => simp [hz] at hB
        | some B0 =>
          simp [hz] at hB; subst hB
          have h0 := hr.sat.blk k' B0 hz
          cases B0 with
          | box cs E =>
            obtain ⟨b2, vs, h1, h2, h3, h4, h5, h6⟩ := h0
            refine ⟨b2, vs, h1, h2, h3, h4, by simpa using h5, fun j c v hc hv => ?_⟩
            rw [List.getElem?_map] at hc
            cases hc0 : cs[j]? with
            | none => simp [hc0] at hc
            | some c0 => simp [hc0] at hc; subst hc; exact hfz c0 v (h6 j c0 v hc0 hv)
          | hold vs cs =>
            refine ⟨by simpa using h0.1, fun j c v hc hv => ?_⟩
            rw [List.getElem?_map] at hc
            cases hc0 : cs[j]? with
            | none => simp [hc0] at hc
            | some c0 => simp [hc0] at hc; subst hc; exact hfz c0 v (h0.2 j c0 v hc0 hv)
          | row _ _ _ _ => exact h0
          | obj _ _ => exact h0
          | yld _ _ => exact h0
          | dead => trivial
      · subst hB; trivial
  · have ho := h3 b (by rw [e]; rfl)
    let J : Nat → Option Value := fun o => if o < l.length * s then w.cell? ⟨b, o, none⟩ else none
    have hcell : ∀ o, o < l.length * s → w.cell? ⟨b, o, none⟩ = xs[o]? := fun o ho => by
      simp only [World.cell?, hh]
      rw [← htk, List.getElem?_take, if_pos ho]
      simp
    refine ⟨_, hr.letgo (b := b) (J := J) (frz k enc l) ho (fun o v hv => by simp only [J] at hv; split at hv; exact hv; simp at hv) fun x v hx => ?_⟩
    have hle : Im.le g.I (fun b' o => if b' = b then J o else g.I b' o) := fun b' o v hI => by
      have : b' ≠ b := fun e => by have := (hr.sat.im b' o v hI).2; rw [e, ho.1] at this; simp at this
      simp [this, hI]
    have hcl : RV (fun b' o => if b' = b then J o else g.I b' o) g.ρ (cln k x) v := (hx.mono hle).cln (fun _ _ => rfl)
    cases x <;> try exact hcl
    case own k' =>
      simp only [frz]
      cases hb : k'.beq k with
      | false => exact hx.mono hle
      | true =>
        have : k' = k := by simpa using hb
        subst this
        have := inv_own hx
        rw [e] at this
        subst this
        have hget : ∀ (i : Nat) (x : α) (j : Nat), l[i]? = some x → j < s → i * s + j < l.length * s := fun i x j hx hj => by
          have hil : i < l.length := (List.getElem?_eq_some_iff.1 hx).1
          have h2 : (i + 1) * s ≤ l.length * s := Nat.mul_le_mul_right s hil
          have h3 : (i + 1) * s = i * s + s := Nat.succ_mul i s
          omega
        refine .sl enc l _ b 0 s cap (fun i j => xs.getD (i * s + j) .nilIface) (fun _ => rfl) hnc hcm h1 (fun i x j hx hj => ?_) (fun i x j c hx hc => ?_)
        · have hlt := hget i x j hx hj
          simp only [if_true, Nat.zero_add, J]
          rw [if_pos hlt, hcell _ hlt]
          have hxl : i * s + j < xs.length := by rw [hw.1]; exact hlt
          rw [List.getElem?_eq_getElem hxl]; simp [List.getD, List.getElem?_eq_getElem hxl]
        · have hjs : j < s := by rw [← h1 i x hx]; exact (List.getElem?_eq_some_iff.1 hc).1
          have hxl : i * s + j < xs.length := by rw [hw.1]; exact hget i x j hx hjs
          have := h2 i x j c _ hx hc (List.getElem?_eq_getElem hxl)
          simp only [List.getD, List.getElem?_eq_getElem hxl, Option.getD_some]
          exact this.mono hle

def frzB (k : Nat) (cs : List AV) : AV → AV
  | .ptr k' s i j => bif k'.beq k then .ept (fun _ : Unit => cs) () (i * s + j) else .ptr k' s i j
  | .fn f caps => .fn f (caps.map fun c => match c with | .ptr k' s i j => (bif k'.beq k then .ept (fun _ : Unit => cs) () (i * s + j) else .ptr k' s i j) | c => cln k c)
  | x => cln k x

/-- The box of name k is let go: nothing writes to it any more. -/
theorem Imp.freezeBox {C : Ctx} {st : St} {cs : List AV} {E k : Nat} (hk : lk st.h k = some (.box cs E)) (hn : AV.nm.nmL cs = true) : Imp C st { t := mapT (frzB k cs) st.t, h := (k, .dead) :: mapH (frzB k cs) st.h } := fun g a w hr => by
  obtain ⟨b, vs, h1, h2, h3, h4, h5, h6⟩ := hr.sat.blk k _ hk
  let J : Nat → Option Value := fun o => vs[o]?
  refine ⟨_, hr.letgo (b := b) (J := J) (frzB k cs) ⟨h2, h3⟩ (fun o v hv => by simp only [World.cell?, h4]; simpa [J] using hv) fun x v hx => ?_⟩
  have hle : Im.le g.I (fun b' o => if b' = b then J o else g.I b' o) := fun b' o v hI => by
    have : b' ≠ b := fun e => by have := (hr.sat.im b' o v hI).2; rw [e, h2] at this; simp at this
    simp [this, hI]
  have hptr : ∀ {k' s i j : Nat} {v : Value}, RV g.I g.ρ (.ptr k' s i j) v → RV (fun b' o => if b' = b then J o else g.I b' o) g.ρ (bif k'.beq k then .ept (fun _ : Unit => cs) () (i * s + j) else .ptr k' s i j) v := fun {k' s i j v} hx => by
    cases hb : k'.beq k with
    | false => exact hx.mono hle
    | true =>
      have : k' = k := by simpa using hb
      subst this
      obtain ⟨b', hb', e⟩ := inv_ptr hx
      have : b' = b := by rw [h1] at hb'; simpa [blkOf] using hb'.symm
      subst this
      subst e
      have h0 := RV.ept (I := fun b'' o => if b'' = b' then J o else g.I b'' o) (ρ := g.ρ) (fun _ : Unit => cs) () (i * s + j) b' 0 (fun j => vs.getD j .nilIface) (fun j hj => by
        have hjl : j < vs.size := by rw [h5]; exact hj
        simp [J, hjl]) (fun j c hc => by
        have hjl : j < vs.size := by rw [h5]; exact (List.getElem?_eq_some_iff.1 hc).1
        have := h6 j c _ hc (Array.getElem?_eq_getElem hjl)
        simpa [hjl] using (this.mono hle).forget (AV.nmL_get hn hc))
      simpa using h0
  have hcl : ∀ {x : AV} {v : Value}, RV g.I g.ρ x v → RV (fun b' o => if b' = b then J o else g.I b' o) g.ρ (cln k x) v := fun hx => (hx.mono hle).cln (fun _ _ => rfl)
  cases x <;> try exact hcl hx
  case ptr k' s i j => exact hptr hx
  case fn f caps =>
    obtain ⟨us, e, hl, hu⟩ := inv_fn hx
    subst e
    refine .fn f _ us (by simpa using hl) fun j c u hc hu' => ?_
    rw [List.getElem?_map] at hc
    cases hc0 : caps[j]? with
    | none => simp [hc0] at hc
    | some c0 =>
      simp [hc0] at hc
      subst hc
      have := hu j c0 u hc0 hu'
      cases c0 <;> first
        | exact hptr this
        | exact hcl this
end Go.Rse
