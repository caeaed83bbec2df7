/-
  Rules: a middle part of an immutable list; the greater and the smaller of two numbers.
-/
import Derived.Test.YtmbjfeaipblfcaaGreatDoorTLogB
namespace Go.Rse
open Go Go.RowKit
set_option linter.unusedVariables false
set_option linter.unusedSimpArgs false
section
variable {P : Program} {C : Ctx} {st : St} {ty : TypeId}
theorem P_slice_slB {α : Type} {enc : α → List AV} {l : List α} {E t : TypeId} {x y z : Operand} {s : Nat} {kk kj : IntKind} {i j : Int} {ag : Bool} (hx : ev st x = some (.sl enc l)) (hy : ev st y = some (.int kk i)) (hz : ev st z = some (.int kj j)) (ht : slOk P t E = true) (hE : tyOk P E ag s = true) (he : ∀ x, (enc x).length = s)
    (h0 : 0 ≤ i) (h1 : i ≤ j) (h2 : j ≤ l.length) : Pur P C (.slice t x (some y) (some z) none) ty st (.sl enc ((l.drop i.toNat).take (j.toNat - i.toNat))) := fun g a w dst pos af gd hr => by
  obtain ⟨A, b, o, s', c, vs, e, hA, hc, hm, hs, hI, hv⟩ := inv_sl (ev_rv hr hx)
  have ey := inv_int (ev_rv hr hy)
  have ez := inv_int (ev_rv hr hz)
  have hl : ((l.drop i.toNat).take (j.toNat - i.toNat)).length = j.toNat - i.toNat := by rw [List.length_take, List.length_drop]; omega
  have hjc : j ≤ (c : Int) := by omega
  have h0j : 0 ≤ j := by omega
  have hb : (Instr.sliceBounds true l.length c (some (.int kk i)) (some (.int kj j)) none).run P w = .ok (i.toNat, j.toNat, c) w := by
    have hij : i ≤ ((j.toNat : Nat) : Int) := by omega
    simp [Instr.sliceBounds, Instr.sliceBound, asIntOf, h0, h0j, hjc]
    omega
  refine ⟨.slice (if c = i.toNat then A else A.map (·.add (i.toNat * s))) (j.toNat - i.toNat) (c - i.toNat), ?_, ?_⟩
  · simp [execOp, Instr.sliceAt, Instr.slice, run_underlying (slOk_under ht), e, ey, ez, hb, run_sizeOf hE]
  · have hget : ∀ {q : Nat} {x : α}, ((l.drop i.toNat).take (j.toNat - i.toNat))[q]? = some x → l[i.toNat + q]? = some x := fun {q x} h => by
      rw [List.getElem?_take] at h
      split at h
      · rwa [List.getElem?_drop] at h
      · simp at h
    have hss : ∀ {q : Nat} {x : α}, ((l.drop i.toNat).take (j.toNat - i.toNat))[q]? = some x → s' = s := fun {q x} h => (hs _ _ (hget h)).symm.trans (he x)
    have hA2 : (l.drop i.toNat).take (j.toNat - i.toNat) ≠ [] → (if c = i.toNat then A else A.map (·.add (i.toNat * s))) = some ⟨b, o + i.toNat * s, none⟩ := fun hne => by
      have hl0 : l ≠ [] := fun e => hne (by rw [e]; simp)
      have := List.length_pos_iff.2 hne
      rw [if_neg (by omega), hA hl0]
      simp [add_plain']
    have := RV.sl (I := g.I) (ρ := g.ρ) enc ((l.drop i.toNat).take (j.toNat - i.toNat)) (if c = i.toNat then A else A.map (·.add (i.toNat * s))) b (o + i.toNat * s) s (c - i.toNat) (fun j q => vs (i.toNat + j) q) hA2 (by rw [hl]; omega) (by omega) (fun j x h => he x)
      (fun q x q2 h hq => by
        have hq' : q2 < s' := by rw [hss h]; exact hq
        have := hI _ _ q2 (hget h) hq'
        rw [hss h, Nat.add_mul, ← Nat.add_assoc o] at this
        exact this) (fun q x q2 cell h => hv _ _ q2 cell (hget h))
    rw [hl] at this; exact this
theorem P_max {x y : Operand} {ts : Array TypeId} {k k' : IntKind} {i j : Int} (hx : ev st x = some (.int k i)) (hy : ev st y = some (.int k' j)) : Pur P C (.call { callee := .builtin .max, args := #[x, y], argTypes := ts }) ty st (.int k (max i j)) := fun g a w dst pos af gd hr => by
  have ex := inv_int (ev_rv hr hx)
  have ey := inv_int (ev_rv hr hy)
  refine ⟨.int k (if j > i then j else i), ?_, ?_⟩
  · simp [execOp, resolve, invoke, builtin, Builtin.max_, Builtin.max2, ex, ey]
  · have e : (if j > i then j else i) = max i j := by
      by_cases h : j > i
      · rw [if_pos h]; omega
      · rw [if_neg h]; omega
    rw [e]; exact .int _ _
end
end Go.Rse
