/-
  A block handed back under another name.
-/
import Derived.Test.YteecbmgddacioaaRse19
namespace Go.Rse
open Go Go.RowKit
set_option linter.unusedVariables false

theorem FnO.renOwn {P : Program} {f : FuncId} {as : List AV} {hs : List (Nat × Blk)} {n : Nat} {B : Blk} (n' : Nat) (h : FnO P f as hs [] (.own n) [(n, B)]) (hB : B.nm = true) : FnO P f as hs [] (.own n') [(n', B)] := by
  refine ⟨h.1, fun d ρ I O w args hsat hargs => Calls.mono (h.2 d ρ I O w args hsat hargs) ?_⟩
  rintro e w' ⟨v, ρ', I', O', rfl, hs1, hv, hx, -⟩
  let ρ2 : Nat → Value := fun k => if k = n' then ρ' n else ρ' k
  let O2 : Owns := fun b => if O' b = some (d, n) then some (d, n') else O' b
  have hO2 : ∀ b p, O2 b = some p → ∃ m, O' b = some (p.1, m) := fun b p hp => by
    simp only [O2] at hp
    split at hp
    · rename_i e; injection hp with hp; subst hp; exact ⟨n, e⟩
    · exact ⟨p.2, hp⟩
  have hx2 : Ext (C0 0 d ⟨ρ, I, O⟩ w) ⟨ρ2, I', O2⟩ w' := by
    refine ⟨hx.I, hx.os, hx.tape, hx.output, hx.size, fun b hb hn ho => ?_, fun b y m hb hy => ?_⟩
    · obtain ⟨p1, p2⟩ := hx.keep b hb hn ho
      refine ⟨p1, ?_⟩
      have : O' b ≠ some (d, n) := fun e => hn (.inr ⟨n, by rw [← p2]; exact e⟩)
      show (if O' b = some (d, n) then some (d, n') else O' b) = O b
      rw [if_neg this]; exact p2
    · obtain ⟨m', hm'⟩ := hO2 b (y, m) hy
      exact hx.own b y m' hb hm'
  refine ⟨v, ρ2, I', O2, rfl, ⟨fun b o u hI => ?_, fun b k hO => ?_, fun k B' hB' => ?_⟩, ?_, hx2, fun k hk => by simp at hk⟩
  · obtain ⟨p1, p2⟩ := hs1.im b o u hI
    have p2 : O' b = none := p2
    exact ⟨p1, by simp [O2, p2]⟩
  · obtain ⟨m, hm⟩ := hO2 b k hO
    exact hs1.ob b _ hm
  · simp only [lk_cons] at hB'
    cases hb : n'.beq k <;> simp [hb] at hB'
    · simp [lk] at hB'
    · have : n' = k := by simpa using hb
      subst this; subst hB'
      refine BlkSat.move (hs1.blk n B (by simp [lk_cons])) hB rfl (by simp [ρ2]) (fun b hb2 => ?_)
      have hb2 : O' b = some (d, n) := hb2
      have h3 : O2 b = some (d, n') := by simp [O2, hb2]
      exact ⟨h3, hx2.okb b n' h3⟩
  · have := inv_own hv
    cases hv
    rename_i A m c h4
    exact .own n' A m c (by simp [ρ2, h4])
end Go.Rse
