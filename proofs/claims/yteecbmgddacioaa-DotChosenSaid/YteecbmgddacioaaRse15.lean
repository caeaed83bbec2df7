/-
  Functions that are handed blocks of the caller's own, and hand blocks back.
-/
import Derived.Test.YteecbmgddacioaaRse14
namespace Go.Rse
open Go Go.RowKit
set_option linter.unusedVariables false

theorem RV.renameL {I : Im} {ρ ρ' : Nat → Value} {x : AV} {v : Value} {ch : List Nat} (h : RV I ρ x v) (hf : ∀ k ∈ ch, x.fr k = true) (hρ : ∀ n, n ∉ ch → ρ' n = ρ n) : RV I ρ' x v := by
  induction h with
  | int k n => exact .int k n
  | bool b => exact .bool b
  | str s => exact .str s
  | nils => exact .nils
  | nilf => exact .nilf
  | sl enc l A b o s c vs hA hc hm hs hI hv ih => exact .sl enc l A b o s c vs hA hc hm hs hI hv
  | own k' A n c h =>
    have : k' ∉ ch := fun hm => by have := hf k' hm; simp [AV.fr] at this
    exact .own k' A n c ((hρ k' this).trans h)
  | ptr k' s i j b h =>
    have : k' ∉ ch := fun hm => by have := hf k' hm; simp [AV.fr] at this
    exact .ptr k' s i j b (by rw [hρ k' this]; exact h)
  | sub k' s i m c A h =>
    have : k' ∉ ch := fun hm => by have := hf k' hm; simp [AV.fr] at this
    exact .sub k' s i m c A (by rw [hρ k' this]; exact h)
  | ept enc x j b o vs hI hv ih => exact .ept enc x j b o vs hI hv
  | yv l => exact .yv l
  | fn f caps vs hl hv ih => exact .fn f caps vs hl (fun j c v hc hvv => ih j c v hc hvv (fun k hk => AV.frL_get (by simpa [AV.fr] using hf k hk) hc) hρ)
  | agg cs vs hl hv ih => exact .agg cs vs hl (fun j c v hc hvv => ih j c v hc hvv (fun k hk => AV.frL_get (by simpa [AV.fr] using hf k hk) hc) hρ)
  | tup cs vs hl hv ih => exact .tup cs vs hl (fun j c v hc hvv => ih j c v hc hvv (fun k hk => AV.frL_get (by simpa [AV.fr] using hf k hk) hc) hρ)
  | ifb b x v h ih => exact .ifb b x v (fun hb => ih hb (fun k hk => by simpa [AV.fr] using hf k hk) hρ)
  | any v => exact .any v

/-- The caller's name of the callee's, and back. -/
def fwd : List (Nat × Nat) → Nat → Option Nat
  | [], _ => none
  | (n, k) :: r, m => bif n.beq m then some k else fwd r m
def bwd : List (Nat × Nat) → Nat → Option Nat
  | [], _ => none
  | (n, k) :: r, m => bif k.beq m then some n else bwd r m
def biOk (μ : List (Nat × Nat)) : Bool := μ.all fun p => (fwd μ p.1 == some p.2) && (bwd μ p.2 == some p.1)
theorem fwd_mem : ∀ {μ : List (Nat × Nat)} {n k : Nat}, fwd μ n = some k → (n, k) ∈ μ
  | [], _, _, h => by simp [fwd] at h
  | (a, b) :: r, n, k, h => by
    simp only [fwd] at h
    cases hb : a.beq n <;> simp [hb] at h
    · exact List.mem_cons_of_mem _ (fwd_mem h)
    · have : a = n := by simpa using hb
      subst this; subst h; simp
theorem bwd_mem : ∀ {μ : List (Nat × Nat)} {n k : Nat}, bwd μ k = some n → (n, k) ∈ μ
  | [], _, _, h => by simp [bwd] at h
  | (a, b) :: r, n, k, h => by
    simp only [bwd] at h
    cases hb : b.beq k <;> simp [hb] at h
    · exact List.mem_cons_of_mem _ (bwd_mem h)
    · have : b = k := by simpa using hb
      subst this; subst h; simp
theorem bi_of {μ : List (Nat × Nat)} (h : biOk μ = true) {n k : Nat} : fwd μ n = some k ↔ bwd μ k = some n := by
  simp only [biOk, List.all_eq_true, Bool.and_eq_true, beq_iff_eq] at h
  constructor
  · intro hf; exact (h _ (fwd_mem hf)).2
  · intro hb; exact (h _ (bwd_mem hb)).1

/-- A value in the caller's names. -/
def ren1 (μ : List (Nat × Nat)) : AV → AV
  | .own n => .own ((fwd μ n).getD 0)
  | .ptr n s i j => .ptr ((fwd μ n).getD 0) s i j
  | x => x
def AV.ren (μ : List (Nat × Nat)) : AV → AV
  | .fn f cs => .fn f (cs.map (ren1 μ))
  | .tup cs => .tup (cs.map (ren1 μ))
  | x => ren1 μ x
/-- Its names are among these. -/
def ok1 (L : List Nat) : AV → Bool
  | .own n => L.any (·.beq n)
  | .ptr n _ _ _ => L.any (·.beq n)
  | x => x.nm
def AV.okN (L : List Nat) : AV → Bool
  | .fn _ cs => cs.all (ok1 L)
  | .tup cs => cs.all (ok1 L)
  | x => ok1 L x

theorem ren1_to {I : Im} {ρ ρ' : Nat → Value} {μ : List (Nat × Nat)} {L : List Nat} (hρ : ∀ n ∈ L, ρ' ((fwd μ n).getD 0) = ρ n) {x : AV} {v : Value} (hk : ok1 L x = true) (h : RV I ρ x v) : RV I ρ' (ren1 μ x) v := by
  cases x with
  | own n =>
    have : n ∈ L := by simp only [ok1, List.any_eq_true] at hk; obtain ⟨m, hm, e⟩ := hk; have : m = n := by simpa using e
                       exact this ▸ hm
    cases h; exact .own _ _ _ _ ((hρ n this).trans (by assumption))
  | ptr n s i j =>
    have : n ∈ L := by simp only [ok1, List.any_eq_true] at hk; obtain ⟨m, hm, e⟩ := hk; have : m = n := by simpa using e
                       exact this ▸ hm
    cases h; exact .ptr _ _ _ _ _ (by rw [hρ n this]; assumption)
  | _ => exact h.forget hk
theorem ren1_of {I : Im} {ρ ρ' : Nat → Value} {μ : List (Nat × Nat)} {L : List Nat} (hρ : ∀ n ∈ L, ρ' ((fwd μ n).getD 0) = ρ n) {x : AV} {v : Value} (hk : ok1 L x = true) (h : RV I ρ' (ren1 μ x) v) : RV I ρ x v := by
  cases x with
  | own n =>
    have : n ∈ L := by simp only [ok1, List.any_eq_true] at hk; obtain ⟨m, hm, e⟩ := hk; have : m = n := by simpa using e
                       exact this ▸ hm
    have h : RV I ρ' (.own ((fwd μ n).getD 0)) v := h
    cases h; exact .own _ _ _ _ ((hρ n this).symm.trans (by assumption))
  | ptr n s i j =>
    have : n ∈ L := by simp only [ok1, List.any_eq_true] at hk; obtain ⟨m, hm, e⟩ := hk; have : m = n := by simpa using e
                       exact this ▸ hm
    have h : RV I ρ' (.ptr ((fwd μ n).getD 0) s i j) v := h
    cases h; exact .ptr _ _ _ _ _ (by rw [← hρ n this]; assumption)
  | _ => exact RV.forget h hk
theorem ren_to {I : Im} {ρ ρ' : Nat → Value} {μ : List (Nat × Nat)} {L : List Nat} (hρ : ∀ n ∈ L, ρ' ((fwd μ n).getD 0) = ρ n) {x : AV} {v : Value} (hk : x.okN L = true) (h : RV I ρ x v) : RV I ρ' (x.ren μ) v := by
  have hl : ∀ (cs : List AV) (us : List Value), cs.all (ok1 L) = true → us.length = cs.length → (∀ (j : Nat) (c : AV) (v : Value), cs[j]? = some c → us[j]? = some v → RV I ρ c v) →
      ∀ (j : Nat) (c : AV) (v : Value), (cs.map (ren1 μ))[j]? = some c → us[j]? = some v → RV I ρ' c v := fun cs us hk hl hv j c v hc hu => by
    rw [List.getElem?_map] at hc
    cases hz : cs[j]? with
    | none => simp [hz] at hc
    | some z =>
      simp [hz] at hc; subst hc
      exact ren1_to hρ (List.all_eq_true.1 hk z (List.mem_of_getElem? hz)) (hv j z v hz hu)
  cases x with
  | fn f cs => cases h; rename_i us h1 h2; exact .fn f _ us (by simpa using h1) (hl cs us hk h1 h2)
  | tup cs => cases h; rename_i us h1 h2; exact .tup _ us (by simpa using h1) (hl cs us hk h1 h2)
  | own n => exact ren1_to (x := .own n) hρ hk h
  | ptr n s i j => exact ren1_to (x := .ptr n s i j) hρ hk h
  | _ => exact h.forget hk
theorem ren_of {I : Im} {ρ ρ' : Nat → Value} {μ : List (Nat × Nat)} {L : List Nat} (hρ : ∀ n ∈ L, ρ' ((fwd μ n).getD 0) = ρ n) {x : AV} {v : Value} (hk : x.okN L = true) (h : RV I ρ' (x.ren μ) v) : RV I ρ x v := by
  have hl : ∀ (cs : List AV) (us : List Value), cs.all (ok1 L) = true → us.length = (cs.map (ren1 μ)).length → (∀ (j : Nat) (c : AV) (v : Value), (cs.map (ren1 μ))[j]? = some c → us[j]? = some v → RV I ρ' c v) →
      ∀ (j : Nat) (c : AV) (v : Value), cs[j]? = some c → us[j]? = some v → RV I ρ c v := fun cs us hk hl hv j c v hc hu =>
    ren1_of hρ (List.all_eq_true.1 hk c (List.mem_of_getElem? hc)) (hv j _ v (by rw [List.getElem?_map, hc]; rfl) hu)
  cases x with
  | fn f cs =>
    have h : RV I ρ' (.fn f (cs.map (ren1 μ))) v := h
    cases h; rename_i us h1 h2; exact .fn f _ us (by simpa using h1) (hl cs us hk h1 h2)
  | tup cs =>
    have h : RV I ρ' (.tup (cs.map (ren1 μ))) v := h
    cases h; rename_i us h1 h2; exact .tup _ us (by simpa using h1) (hl cs us hk h1 h2)
  | own n => exact ren1_of (x := .own n) hρ hk h
  | ptr n s i j => exact ren1_of (x := .ptr n s i j) hρ hk h
  | _ => exact RV.forget h hk

/-- A block whose content bears no names. -/
def Blk.nm : Blk → Bool
  | .box cs _ => AV.nm.nmL cs
  | .row _ _ _ _ => true
  | _ => false
def keys (h : List (Nat × Blk)) : List Nat := h.map (·.1)
/-- The names in a block's content are among these. -/
def Blk.okNB (L : List Nat) : Blk → Bool
  | .box cs _ => cs.all (AV.okN L)
  | .row _ _ _ _ => true
  | _ => false
/-- The block, its content's names turned. -/
def Blk.renB (μ : List (Nat × Nat)) : Blk → Blk
  | .box cs E => .box (cs.map (AV.ren μ)) E
  | B => B

/-- The function f is handed the blocks hs, leaves hs'; the names kp mean what they meant. -/
def FnO (P : Program) (f : FuncId) (as : List AV) (hs : List (Nat × Blk)) (kp : List Nat) (r : AV) (hs' : List (Nat × Blk)) : Prop :=
  callOk P f = true ∧ ∀ (d : Nat) (ρ : Nat → Value) (I : Im) (O : Owns) (w : World) (args : List Value), Sat (C0 0 d ⟨ρ, I, O⟩ w) hs ⟨ρ, I, O⟩ w → RVL I ρ as args →
    Calls P f args.toArray w fun e w' => ∃ v ρ' I' O', e = .returned v ∧ Sat (C0 0 d ⟨ρ, I, O⟩ w) hs' ⟨ρ', I', O'⟩ w' ∧ RV I' ρ' r v ∧ Ext (C0 0 d ⟨ρ, I, O⟩ w) ⟨ρ', I', O'⟩ w' ∧ ∀ n ∈ kp, ρ' n = ρ n

/-- What stands for the name n. -/
def hdr (h : List (Nat × Blk)) (n : Nat) : Option AV := match lk h n with
  | some (.row _ _ _ _) => some (.own n)
  | some (.box _ _) => some (.ptr n 0 0 0)
  | _ => none
abbrev kN : Nat := 1000001

theorem hdr_in {C : Ctx} {h : List (Nat × Blk)} {g : Gh} {w : World} (hs : Sat C h g w) {n : Nat} {x : AV} (hx : hdr h n = some x) : RV g.I g.ρ x (g.ρ n) := by
  unfold hdr at hx
  split at hx
  · rename_i heq
    injection hx with hx; subst hx
    obtain ⟨xs, h1, _⟩ := hs.blk n _ heq
    rcases h1.2 with ⟨e, _⟩ | ⟨b, cap, cur, e, _⟩
    · rw [e]; exact .own n _ _ _ e
    · rw [e]; exact .own n _ _ _ e
  · rename_i heq
    injection hx with hx; subst hx
    obtain ⟨b, vs, h1, _⟩ := hs.blk n _ heq
    rw [h1]
    have := RV.ptr (I := g.I) (ρ := g.ρ) n 0 0 0 b (by rw [h1]; rfl)
    simpa using this
  · simp at hx
theorem hdr_out {C : Ctx} {h : List (Nat × Blk)} {g : Gh} {w : World} (hs : Sat C h g w) {n : Nat} {x : AV} (hx : hdr h n = some x) {v : Value} (hv : RV g.I g.ρ x v) : g.ρ n = v := by
  unfold hdr at hx
  split at hx
  · injection hx with hx; subst hx; exact inv_own hv
  · rename_i heq
    injection hx with hx; subst hx
    obtain ⟨b, vs, h1, _⟩ := hs.blk n _ heq
    obtain ⟨b', h2, e⟩ := inv_ptr hv
    rw [h1] at h2 ⊢
    simp [blkOf] at h2
    subst h2
    rw [e]
  · simp at hx

theorem hdrs_in {C : Ctx} {h : List (Nat × Blk)} {g : Gh} {w : World} (hs : Sat C h g w) : ∀ {kp : List Nat} {cs : List AV}, kp.mapM (hdr h) = some cs → RVL g.I g.ρ cs (kp.map g.ρ)
  | [], cs, e => by simp at e; subst e; exact ⟨rfl, fun j c v hc => by simp at hc⟩
  | n :: r, cs, e => by
    simp only [List.mapM_cons] at e
    cases h1 : hdr h n with
    | none => simp [h1] at e
    | some x =>
      cases h2 : r.mapM (hdr h) with
      | none => simp [h1, h2] at e
      | some ys =>
        simp [h1, h2] at e; subst e
        obtain ⟨hl, hv⟩ := hdrs_in hs h2
        refine ⟨by simpa using hl, fun j c v hc hvv => ?_⟩
        cases j with
        | zero => simp at hc hvv; subst hc; subst hvv; exact hdr_in hs h1
        | succ j => exact hv j c v (by simpa using hc) (by simpa using hvv)
theorem hdrs_out {C : Ctx} {h : List (Nat × Blk)} {g : Gh} {w : World} (hs : Sat C h g w) {ρ : Nat → Value} : ∀ {kp : List Nat} {cs : List AV}, kp.mapM (hdr h) = some cs → RVL g.I g.ρ cs (kp.map ρ) → ∀ n ∈ kp, g.ρ n = ρ n
  | [], cs, e, _, n, hn => by simp at hn
  | m :: r, cs, e, hv, n, hn => by
    simp only [List.mapM_cons] at e
    cases h1 : hdr h m with
    | none => simp [h1] at e
    | some x =>
      cases h2 : r.mapM (hdr h) with
      | none => simp [h1, h2] at e
      | some ys =>
        simp [h1, h2] at e; subst e
        rcases List.mem_cons.1 hn with rfl | hn
        · exact hdr_out hs h1 (hv.2 0 x _ (by simp) (by simp))
        · exact hdrs_out hs h2 ⟨by simpa using hv.1, fun j c v hc hvv => hv.2 (j + 1) c v (by simpa using hc) (by simpa using hvv)⟩ n hn

/-- How a function ends that hands blocks back. -/
def RetQO (P : Program) (C : Ctx) (rv : List ResultVar) (r : AV) (vs : List Value) (cs : List AV) (hs' : List (Nat × Blk)) (e : Exit) (st : St) : Prop :=
  (e = .normal ∨ e = .ret) ∧ ∃ ts, Imp C st ⟨ts, (kN, .hold vs cs) :: hs'⟩ ∧ RetVs P ⟨ts, (kN, .hold vs cs) :: hs'⟩ rv r

theorem Sat.blkN {C : Ctx} {h h' : List (Nat × Blk)} {g : Gh} {w : World} (hs : Sat C h g w) (hb : ∀ k B, lk h' k = some B → BlkSat C g w k B) : Sat C h' g w := ⟨hs.im, hs.ob, hb⟩
theorem BlkSat.ctx {n n' d : Nat} {g0 g : Gh} {w0 w : World} {k : Nat} {B : Blk} (h : BlkSat (C0 n d g0 w0) g w k B) : BlkSat (C0 n' d g0 w0) g w k B := by
  cases B <;> exact h
theorem lk_noKey {α : Type 1} : ∀ {h : List (Nat × α)} {k : Nat}, (h.all fun p => !(p.1.beq k)) = true → lk h k = none
  | [], _, _ => rfl
  | (k', B) :: r, k, h => by
    simp only [List.all_cons, Bool.and_eq_true] at h
    have : k'.beq k = false := by simpa using h.1
    simp [lk_cons, this, lk_noKey h.2]

theorem FnO.intro {P : Program} {f : FuncId} {fn : Func} {c : Code} {n : Nat} {as : List AV} {ts : List (Nat × AV)} {rv : List ResultVar} {r : AV} {hs hs' : List (Nat × Blk)} {kp : List Nat} {cs : List AV} (hc : callOk P f = true) (hf : P.funcs[f]? = some fn) (hb : fn.body = some c) (hn : fn.ntmps = n) (hrv : fn.results = rv.toArray)
    (hts : inits 0 as = ts) (hlen : as.length ≤ n) (hkn : (hs.all fun p => !(p.1.beq kN)) = true) (hkn' : (hs'.all fun p => !(p.1.beq kN)) = true) (hkp : kp.mapM (hdr hs) = some cs) (hkp' : kp.mapM (hdr hs') = some cs)
    (h : ∀ g w d vs, X P (C0 n d g w) c ⟨ts, (kN, .hold vs cs) :: hs⟩ (RetQO P (C0 n d g w) rv r vs cs hs')) : FnO P f as hs kp r hs' := by
  refine ⟨hc, fun d ρ I O w args hsat hargs => (callsIn_wide (n := 0)).1 (callsIn_of_wp_marks hf hb trivial ?_)⟩
  subst hts
  have hsz : args.length = as.length := hargs.1
  let C := C0 n d ⟨ρ, I, O⟩ w
  have hrel : Rel C ⟨inits 0 as, (kN, .hold (kp.map ρ) cs) :: hs⟩ ⟨ρ, I, O⟩ { tmps := args.toArray ++ Array.replicate (fn.ntmps - args.toArray.size) undef, defers := [] } w := by
    refine ⟨by simp [hn, C]; omega, Dfs.nil _ _ _, fun t x hx => ?_, ⟨hsat.im, hsat.ob, fun k B hB => ?_⟩, ⟨Im.le_refl _, rfl, rfl, rfl, Nat.le_refl _, fun _ _ _ _ => ⟨rfl, rfl⟩, fun b y n _ hy => ⟨n, hy⟩⟩⟩
    · obtain ⟨_, hx'⟩ := lk_inits (I := I) (ρ := ρ) as 0 t x hx
      simp only [Nat.sub_zero] at hx'
      have ht : t < args.length := by rw [hsz]; exact (List.getElem?_eq_some_iff.1 hx').1
      have e : (args.toArray ++ Array.replicate (fn.ntmps - args.toArray.size) undef).getD t undef = args[t] := by
        simp [Array.getD_eq_getD_getElem?, Array.getElem?_append, ht]
      rw [e]
      exact hargs.2 t x _ hx' (List.getElem?_eq_getElem ht)
    · simp only [lk_cons] at hB
      cases hbq : kN.beq k <;> simp [hbq] at hB
      · exact (hsat.blk k B hB).ctx
      · subst hB
        exact hdrs_in (g := ⟨ρ, I, O⟩) hsat hkp
  refine wpIn_mono (h _ w d _ _ _ w hrel) ?_
  rintro e a w' ⟨st, g1, hr1, he, ts', himp, hret⟩
  obtain ⟨g2, hr2⟩ := himp g1 a w' hr1
  have hfin : LeavesInM Fence.wide 0 P fn a.tmps (fun e w' => ∃ v ρ' I' O', e = .returned v ∧ Sat (C0 0 d ⟨ρ, I, O⟩ w) hs' ⟨ρ', I', O'⟩ w' ∧ RV I' ρ' r v ∧ Ext (C0 0 d ⟨ρ, I, O⟩ w) ⟨ρ', I', O'⟩ w' ∧ ∀ n ∈ kp, ρ' n = ρ n) a.defers .returning w' := by
    obtain ⟨D, hD, hnd, hDr⟩ := hr2.defers
    refine leave_marks (C := C) hrv hret (fun g3 w3 v hr3 hv => ?_) D hD hnd hDr ⟨hr2.size, Dfs.nil _ _ _, hr2.tmps, hr2.sat, hr2.ext⟩
    have hs3 : Sat (C0 0 d ⟨ρ, I, O⟩ w) hs' g3 w3 := ⟨hr3.sat.im, hr3.sat.ob, fun k B hB => by
      refine (hr3.sat.blk k B ?_).ctx
      have : kN.beq k = false := by
        cases hb : kN.beq k
        · rfl
        · have : kN = k := by simpa using hb
          subst this; rw [lk_noKey hkn'] at hB; simp at hB
      simp [lk_cons, this, hB]⟩
    have hh := hr3.sat.blk kN (.hold (kp.map ρ) cs) (by simp [lk_cons])
    exact ⟨v, g3.ρ, g3.I, g3.O, rfl, hs3, hv, ⟨hr3.ext.I, hr3.ext.os, hr3.ext.tape, hr3.ext.output, hr3.ext.size, hr3.ext.keep, hr3.ext.own⟩, hdrs_out (ρ := ρ) hs3 hkp' hh⟩
  rcases he with rfl | rfl <;> exact hfin
end Go.Rse
