/-
  The logic: a part of a row, read.
-/
import Derived.Test.YteecbmgddacioaaGreatRse35
namespace Go.Rse
open Go Go.RowKit
set_option linter.unusedVariables false
section
variable {P : Program} {C : Ctx} {st : St} {ty : TypeId}
theorem inv_sub {I : Im} {ρ : Nat → Value} {k s i m : Nat} {v : Value} (h : RV I ρ (.sub k s i m) v) : ∃ A c, v = .slice A m c ∧ (m ≠ 0 → ∃ b, blkOf (ρ k) = some b ∧ A = some ⟨b, i * s, none⟩) := by
  cases h; exact ⟨_, _, rfl, by assumption⟩
theorem P_len_sub {x : Operand} {t E : TypeId} {k s i m : Nat} (hx : ev st x = some (.sub k s i m)) (h : slOk P t E = true) :
    Pur P C (.call { callee := .builtin .len, args := #[x], argTypes := #[t] }) ty st (.int .i64 m) := fun g a w dst pos af gd hr => by
  obtain ⟨A, c, e, _⟩ := inv_sub (ev_rv hr hx)
  exact ⟨_, run_lenOp h e, .int _ _⟩
theorem P_index_sub {x y : Operand} {t E : TypeId} {ag : Bool} {k s i m : Nat} {kk : IntKind} {q : Int} (hx : ev st x = some (.sub k s i m)) (hy : ev st y = some (.int kk q)) (h : slOk P t E = true) (hs : tyOk P E ag s = true) (h0 : 0 ≤ q) (h1 : q < m) :
    Pur P C (.indexAddr t x y) ty st (.ptr k s (i + q.toNat) 0) := fun g a w dst pos af gd hr => by
  obtain ⟨A, c, e, hA⟩ := inv_sub (ev_rv hr hx)
  obtain ⟨b, hb, rfl⟩ := hA (by omega)
  refine ⟨_, run_indexOp h hs e (inv_int (ev_rv hr hy)) h0 h1, ?_⟩
  have := RV.ptr (I := g.I) (ρ := g.ρ) k s (i + q.toNat) 0 b hb
  rw [Nat.add_mul] at this
  simpa using this
theorem P_load_row_all {α : Type} {enc : α → List AV} {l : List α} {u : α} {t : TypeId} {x : Operand} {k s i : Nat} {E : TypeId} (hx : ev st x = some (.ptr k s i 0)) (hk : lk st.h k = some (.row enc l E s)) (hu : l[i]? = some u) (hl : (enc u).length = s) (hn : AV.nm.nmL (enc u) = true)
    (ht : tyOk P t true s = true) : Pur P C (.load t x) ty st (.agg (enc u)) := fun g a w dst pos af gd hr => by
  obtain ⟨b, hb, e⟩ := inv_ptr (ev_rv hr hx)
  obtain ⟨xs, hw, h1, h2, h3⟩ := hr.sat.blk k _ hk
  rcases hw.2 with ⟨hv, _⟩ | ⟨b', cap, cur, hv, _, hh, hnc, _, hcur, htk⟩
  · rw [hv] at hb; simp [blkOf] at hb
  · have : b' = b := by rw [hv] at hb; simpa [blkOf] using hb
    subst this
    have hil : i < l.length := (List.getElem?_eq_some_iff.1 hu).1
    have hle : i * s + s ≤ l.length * s := by
      have h2 : (i + 1) * s ≤ l.length * s := Nat.mul_le_mul_right s hil
      have h3 : (i + 1) * s = i * s + s := Nat.succ_mul i s
      omega
    have hxs : xs.length = l.length * s := hw.1
    have hlen : ((xs.drop (i * s)).take s).length = s := by rw [List.length_take, List.length_drop]; omega
    have hget : ∀ j, j < s → ((xs.drop (i * s)).take s)[j]? = xs[i * s + j]? := fun j hj => by
      rw [List.getElem?_take_of_lt hj, List.getElem?_drop]
    refine ⟨.agg ((xs.drop (i * s)).take s).toArray, ?_, .agg _ _ (by rw [hlen, hl]) (fun j c v hc hv => ?_)⟩
    · have := run_loadVar_agg (P := P) (t := t) ht (b := b') (o := i * s) (w := w) (vs := (xs.drop (i * s)).take s) hlen (fun j v hv => by
        have hj : j < s := by rw [← hlen]; exact (List.getElem?_eq_some_iff.1 hv).1
        rw [hget j hj] at hv
        simp only [World.cell?, hh]
        have h0 : cur.toList[i * s + j]? = some v := by
          rw [← hv]
          conv => rhs; rw [← htk]
          rw [List.getElem?_take, if_pos (by omega)]
        simpa using h0)
      simp only [execOp, e, Nat.add_zero, Sem.run_bind, Instr.loadAt, Instr.sureAddr, Sem.run_pure, Result.andThen_ok, this]
    · have hj : j < s := by rw [← hl]; exact (List.getElem?_eq_some_iff.1 hc).1
      rw [hget j hj] at hv
      exact (h2 i u j c v hu hc hv).forget (AV.nmL_get hn hc)
end
end Go.Rse
