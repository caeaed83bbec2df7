/-
  Functions that are handed blocks and leave more of their own; calls of such, in short form.
-/
import Derived.Test.YteecbmgddacioaaGreatRse30
namespace Go.Rse
open Go Go.RowKit
set_option linter.unusedVariables false
def RetQX (P : Program) (C : Ctx) (rv : List ResultVar) (r : AV) (vs : List Value) (cs : List AV) (hs' : List (Nat × Blk)) (e : Exit) (st : St) : Prop :=
  (e = .normal ∨ e = .ret) ∧ ∃ ts ex, Imp C st ⟨ts, (kN, .hold vs cs) :: (hs' ++ ex)⟩ ∧ RetVs P ⟨ts, (kN, .hold vs cs) :: (hs' ++ ex)⟩ rv r
theorem RetQX.mk {P : Program} {C : Ctx} {rv : List ResultVar} {r : AV} {vs : List Value} {cs : List AV} {hs' : List (Nat × Blk)} {e : Exit} {st : St} (ts : List (Nat × AV)) (ex : List (Nat × Blk)) (he : e = .normal ∨ e = .ret) (hr : RetVs P ⟨ts, (kN, .hold vs cs) :: (hs' ++ ex)⟩ rv r) (hi : Imp C st ⟨ts, (kN, .hold vs cs) :: (hs' ++ ex)⟩ := by exact Imp.au) : RetQX P C rv r vs cs hs' e st :=
  ⟨he, ts, ex, hi, hr⟩
theorem FnO.introX {P : Program} {f : FuncId} {fn : Func} {c : Code} {n : Nat} {az : List AV} {ts : List (Nat × AV)} {rv : List ResultVar} {r : AV} {hs hs' : List (Nat × Blk)} {kp : List Nat} {cs : List AV} (hc : callOk P f = true) (hf : P.funcs[f]? = some fn) (hb : fn.body = some c) (hn : fn.ntmps = n) (hrv : fn.results = rv.toArray)
    (hts : inits 0 az = ts) (hlen : az.length ≤ n) (hkn : (hs.all fun p => !(p.1.beq kN)) = true) (hkn' : (hs'.all fun p => !(p.1.beq kN)) = true) (hkp : kp.mapM (hdr hs) = some cs) (hkp' : kp.mapM (hdr hs') = some cs)
    (h : ∀ g w d vs, X P (C0 n d g w) c ⟨ts, (kN, .hold vs cs) :: hs⟩ (RetQX P (C0 n d g w) rv r vs cs hs')) : FnO P f az hs kp r hs' := by
  refine ⟨hc, fun d ρ I O w args hsat hargs => (callsIn_wide (n := 0)).1 (callsIn_of_wp_marks hf hb trivial ?_)⟩
  subst hts
  have hsz : args.length = az.length := hargs.1
  let C := C0 n d ⟨ρ, I, O⟩ w
  have hrel : Rel C ⟨inits 0 az, (kN, .hold (kp.map ρ) cs) :: hs⟩ ⟨ρ, I, O⟩ { tmps := args.toArray ++ Array.replicate (fn.ntmps - args.toArray.size) undef, defers := [] } w := by
    refine ⟨by simp [hn, C]; omega, Dfs.nil _ _ _, fun t x hx => ?_, ⟨hsat.im, hsat.ob, fun k B hB => ?_⟩, ⟨Im.le_refl _, rfl, rfl, rfl, Nat.le_refl _, Nat.le_refl _, fun _ _ _ _ => ⟨rfl, rfl⟩, fun b y n _ hy => ⟨n, hy⟩⟩⟩
    · obtain ⟨_, hx'⟩ := lk_inits (I := I) (ρ := ρ) az 0 t x hx
      simp only [Nat.sub_zero] at hx'
      have ht : t < args.length := by rw [hsz]; exact (List.getElem?_eq_some_iff.1 hx').1
      have e : (args.toArray ++ Array.replicate (fn.ntmps - args.toArray.size) undef).getD t undef = args[t] := by
        simp [Array.getD_eq_getD_getElem?, Array.getElem?_append, ht]
      rw [e]
      exact hargs.2 t x _ hx' (List.getElem?_eq_getElem ht)
    · simp only [lk_cons] at hB
      cases hbq : kN.beq k <;> simp [hbq] at hB
      · exact (hsat.blk k B hB).ctx
      · subst hB
        exact hdrs_in (g := ⟨ρ, I, O⟩) hsat hkp
  refine wpIn_mono (h _ w d _ _ _ w hrel) ?_
  rintro e a w' ⟨st, g1, hr1, he, ts', ex', himp, hret⟩
  obtain ⟨g2, hr2⟩ := himp g1 a w' hr1
  have hfin : LeavesInM Fence.wide 0 P fn a.tmps (fun e w' => ∃ v ρ' I' O', e = .returned v ∧ Sat (C0 0 d ⟨ρ, I, O⟩ w) hs' ⟨ρ', I', O'⟩ w' ∧ RV I' ρ' r v ∧ Ext (C0 0 d ⟨ρ, I, O⟩ w) ⟨ρ', I', O'⟩ w' ∧ ∀ n ∈ kp, ρ' n = ρ n) a.defers .returning w' := by
    obtain ⟨D, hD, hnd, hDr⟩ := hr2.defers
    refine leave_marks (C := C) hrv hret (fun g3 w3 v hr3 hv => ?_) D hD hnd hDr ⟨hr2.size, Dfs.nil _ _ _, hr2.tmps, hr2.sat, hr2.ext⟩
    have hs3 : Sat (C0 0 d ⟨ρ, I, O⟩ w) hs' g3 w3 := ⟨hr3.sat.im, hr3.sat.ob, fun k B hB => by
      refine (hr3.sat.blk k B ?_).ctx
      have : kN.beq k = false := by
        cases hb : kN.beq k
        · rfl
        · have : kN = k := by simpa using hb
          subst this; rw [lk_noKey hkn'] at hB; simp at hB
      simp [lk_cons, this, lk_append, hB]⟩
    have hh := hr3.sat.blk kN (.hold (kp.map ρ) cs) (by simp [lk_cons])
    exact ⟨v, g3.ρ, g3.I, g3.O, rfl, hs3, hv, ⟨hr3.ext.I, hr3.ext.os, hr3.ext.tape, hr3.ext.output, hr3.ext.drawn, hr3.ext.size, hr3.ext.keep, hr3.ext.own⟩, hdrs_out (ρ := ρ) hs3 hkp' hh⟩
  rcases he with rfl | rfl <;> exact hfin
section
variable {P : Program} {C : Ctx} {st : St} {ty : TypeId} {Q : Exit → St → Prop}
theorem Ex.co {ops : Array Oper} {rest : List Oper} {dst : Option Tmp} {pos : String} {af : Array Edge} {fop : Operand} {args : Array Operand} {ts : Array TypeId} {f : FuncId} {caps xs as' : List AV} {hs hs' : List (Nat × Blk)} {kp : List Nat} {r : AV}
    (μ : List (Nat × Nat)) (h : FnO P f as' hs kp r hs') (hq : Ex P C ops rest (callSt st μ hs hs' dst r) Q) (hf : ev st fop = some (.fn f caps) := by exact rfl) (hx : evs st args.toList = some xs := by exact rfl) (hμ : biOk μ = true := by exact rfl) (hle : LeL (xs ++ caps) (as'.map (AV.ren μ)) := by exact LeL.refl _) (has : as'.all (AV.okN (keys hs)) = true := by exact rfl) (hrn : r.okN (keys hs') = true := by exact rfl)
    (hin : callIns st μ (keys hs) hs := by repeat' (first | exact True.intro | refine And.intro ⟨_, _, rfl, rfl, LeB.refl _, rfl⟩ ?_)) (hout : (hs'.all fun p => (fwd μ p.1).isSome && p.2.okNB (keys hs')) = true := by exact rfl)
    (hnew : (μ.all fun p => kp.any (·.beq p.1) || (hs.any (·.1.beq p.1) && !(hs'.any (·.1.beq p.1))) || (!(hs.any (·.1.beq p.1)) && st.fr p.2)) = true := by exact rfl)
    (hkp : (kp.all fun n => hs.any (·.1.beq n)) = true := by exact rfl) (hd : dOk C.n dst = true := by exact rfl) :
    Ex P C ops ({ dst := dst, op := .call { callee := .value fop, args := args, argTypes := ts }, type := ty, pos := pos, after := af, guard := none } :: rest) st Q := Ex.callO' μ h hf hx hμ hle has hrn hin hout hnew hkp hd hq
end
end Go.Rse
