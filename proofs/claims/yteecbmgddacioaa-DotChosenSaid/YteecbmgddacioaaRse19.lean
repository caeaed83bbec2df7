/-
  A row cut at its end; a byte of a constant string.
-/
import Derived.Test.YteecbmgddacioaaRse18
namespace Go.Rse
open Go Go.RowKit
set_option linter.unusedVariables false
section
variable {P : Program} {C : Ctx} {st : St} {ty : TypeId}

/-- x[:i] of a row of one's own: the row itself is cut. -/
theorem M_take {α : Type} {enc : α → List AV} {l : List α} {E t : TypeId} {x y : Operand} {k s : Nat} {kk : IntKind} {i : Int} {ag : Bool} {dst : Option Tmp} (hx : ev st x = some (.own k)) (hk : lk st.h k = some (.row enc l E s)) (hy : ev st y = some (.int kk i)) (ht : slOk P t E = true) (hE : tyOk P E ag s = true)
    (h0 : 0 ≤ i) (h1 : i ≤ l.length) (hd : dOk C.n dst = true) : StepM P C (.slice t x none (some y) none) ty dst st { t := consT dst (.own k) (clT k st.t), h := (k, .row enc (l.take i.toNat) E s) :: clH k st.h } := fun g a w pos af gd hr K hK => by
  obtain ⟨xs, hw, q1, q2, q3⟩ := hr.sat.blk k _ hk
  have ek := inv_own (ev_rv hr hx)
  have ey := inv_int (ev_rv hr hy)
  have hlen : (l.take i.toNat).length = i.toNat := by simp; omega
  have key : ∀ (A A' : Option Addr) (c : Nat), g.ρ k = .slice A l.length c → l.length ≤ c → (A' = if c = 0 then A else A.map (·.add (0 * s))) → BlkSat C { ρ := fun n => if n = k then .slice A' i.toNat c else g.ρ n, I := g.I, O := g.O } w k (.row enc (l.take i.toNat) E s) →
      wp1 P { dst := dst, op := .slice t x none (some y) none, type := ty, pos := pos, after := af, guard := gd } a w K := fun A A' c hv hc hA' hB => by
    have e0 : (execOp a.eval { dst := dst, op := .slice t x none (some y) none, type := ty, pos := pos, after := af, guard := gd }).run P w = .ok (.value (.slice A' i.toNat c)) w := by
      rw [hv] at ek
      have : (Instr.sliceBounds true l.length c none (some (.int kk i)) none).run P w = .ok (0, i.toNat, c) w := by
        simp [Instr.sliceBounds, Instr.sliceBound, asIntOf, h0, show i ≤ (c : Int) by omega]
      rw [hA']
      simp [execOp, Instr.sliceAt, Instr.slice, run_underlying (slOk_under ht), ← ek, ey, this, run_sizeOf hE]
    unfold wp1
    rw [e0]
    refine hK _ w _ (hr.modifyR (g' := { ρ := fun n => if n = k then .slice A' i.toNat c else g.ρ n, I := g.I, O := g.O }) (k := k) (bo := none) rfl (fun n hn => by simp [hn]) (fun _ _ => rfl) (fun b h => by simp at h) ⟨rfl, rfl, rfl, Nat.le_refl _, fun _ _ _ => rfl⟩ hr.sat.ob hd (.own k _ _ _ (by simp)) hB)
  rcases hw.2 with ⟨hv, h0'⟩ | ⟨b, cap, cur, hv, hb0, hh, hnc, hcm, hcur, htk⟩
  · have hi0 : i.toNat = 0 := by omega
    refine key none none 0 (by rw [hv, h0']) (by omega) (by simp) ⟨[], ⟨by simp [hi0], .inl ⟨by simp [hi0], by simp [hi0]⟩⟩, fun j x hx => by simp [hi0] at hx, fun j x j' c v hx => by simp [hi0] at hx, fun b hb => by simp [blkOf] at hb⟩
  · have hle : i.toNat * s ≤ l.length * s := Nat.mul_le_mul_right s (by omega)
    refine key (some ⟨b, 0, none⟩) (some ⟨b, 0, none⟩) cap hv hnc (by simp [add_plain']) ⟨xs.take (i.toNat * s), ⟨by rw [hlen]; simp; rw [hw.1]; omega, .inr ⟨b, cap, cur, by simp [hlen], hb0, hh, by omega, hcm, hcur, ?_⟩⟩, fun j x hx => ?_, fun j x j' c v hx hc hv => ?_, fun b' hb' => ?_⟩
    · rw [hlen, ← htk, List.take_take]; congr 1; omega
    · rw [List.getElem?_take] at hx; split at hx
      · exact q1 j x hx
      · simp at hx
    · rw [List.getElem?_take] at hx
      split at hx
      · rw [List.getElem?_take] at hv
        split at hv
        · exact q2 j x j' c v hx hc hv
        · simp at hv
      · simp at hx
    · have := q3 b' (by rw [hv]; simpa [blkOf] using hb')
      exact this

/-- A byte of a constant string: some byte. -/
theorem Ex.idxStr {ops : Array Oper} {Q : Exit → St → Prop} {rest : List Oper} {d : Nat} {t : TypeId} {s : ByteArray} {y : Operand} {kk : IntKind} {i : Int} {pos : String} {af : Array Edge} (ht : P.underlying t = some .string) (hy : ev st y = some (.int kk i)) (h0 : 0 ≤ i) (h1 : i < s.size) (hd : d.blt C.n = true)
    (h : ∀ b : Nat, b < 256 → Ex P C ops rest ⟨(d, .int .u8 b) :: st.t, st.h⟩ Q) :
    Ex P C ops ({ dst := some d, op := .index t (.const (.string s)) y, type := ty, pos := pos, after := af, guard := none } :: rest) st Q := fun g a w hr =>
  wpListIn_plain rfl fun K hK => wp1_in <| by
    have ey := inv_int (ev_rv hr hy)
    have e0 : a.eval (.const (.string s)) = .string s := rfl
    have hlt : i.toNat < s.size := by omega
    have e1 : (execOp a.eval { dst := some d, op := .index t (.const (.string s)) y, type := ty, pos := pos, after := af, guard := none }).run P w = .ok (.value (.int .u8 ((s[i.toNat]'hlt).toNat : Int))) w := by
      simp [execOp, Instr.index, asIntOf, e0, ey, run_underlying ht, h0, hlt]
    unfold wp1
    rw [e1]
    refine hK _ _ (h (s[i.toNat]'hlt).toNat (UInt8.toNat_lt _) g _ w ?_)
    exact hr.addSt (d := some d) (nb := none) (Add.refl _ g w) (by simpa [dOk] using hd) rfl (.int _ _) hr.sat.im hr.sat.ob (fun _ _ h => by cases h)
end
end Go.Rse
