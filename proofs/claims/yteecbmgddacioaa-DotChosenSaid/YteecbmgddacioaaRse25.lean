/-
  Slices made at a length; an empty row in a box.
-/
import Derived.Test.YteecbmgddacioaaRse24
import Derived.Laws.OwnMore
namespace Go.Rse
open Go Go.RowKit
set_option linter.unusedVariables false
set_option linter.unusedSimpArgs false
section
variable {P : Program} {C : Ctx} {st : St} {ty : TypeId}
theorem A_makeSlice {α : Type} {enc : α → List AV} (z' : α) {t E : TypeId} {z : Value} {bytes n k : Nat} {x y : Operand} {kl kc : IntKind} {p q : Int} (ht : slOk P t E = true) (hi : TyInfo P E z 1 bytes) (hzc : z.cells = #[z]) (hby : bytes ≤ 1024) (hx : ev st x = some (.int kl p)) (hy : ev st y = some (.int kc q)) (hp : p = (n : Int)) (hq : q = (n : Int)) (hn : n ≤ 1000000)
    (hs : ∀ x, (enc x).length = 1) (hzr : ∀ (I : Im) (j : Nat) c, (enc z')[j]? = some c → RV I noNames c z) : StepA P C (.makeSlice t x y) ty st (.own k) (some (k, .row enc (List.replicate n z') E 1)) :=
  StepA.of_run fun g a w dst pos af gd hr => by
    subst hp; subst hq
    obtain ⟨i, hi1, hi2, hi3, hi4, hi5⟩ := hi
    have ex := inv_int (ev_rv hr hx)
    have ey := inv_int (ev_rv hr hy)
    have hcap : n ≤ maxLen := by simp only [maxLen]; omega
    have hb : i.bytes * n ≤ 281474976710656 := by
      rw [hi4]
      calc bytes * n ≤ 1024 * 1000000 := Nat.mul_le_mul hby hn
        _ ≤ 281474976710656 := by decide
    have hbz : ((i.bytes : Int) * (n : Int)) ≤ 281474976710656 := by
      have : ((i.bytes * n : Nat) : Int) ≤ 281474976710656 := by omega
      rwa [Int.natCast_mul] at this
    have h1 := run_make (P := P) w t E i z (slOk_under ht) hi1 hi2 kl kc n n (by omega) (Int.le_refl _) hbz (by omega)
    simp only [Int.toNat_natCast] at h1
    have ecs : (madeCells z.cells (n * i.size)).toList = List.replicate n z := by
      rw [hzc, hi3, Nat.mul_one]; exact toList_madeCells_one z n
    have hsl : ∀ (i : Nat) x, (List.replicate n z')[i]? = some x → (enc x).length = 1 := fun i x _ => hs x
    refine ⟨.slice (some ⟨w.heap.size, 0, none⟩) n n, _, g.nw C.d w.heap.size k (.slice (some ⟨w.heap.size, 0, none⟩) n n), ?_, Add.nw (Grow.alloc _ (.cells (madeCells z.cells (n * i.size)) E)) C.d k _, .own k _ _ _ (by simp [Gh.nw]), ImOB.nw ⟨hr.sat.im, hr.sat.ob⟩ (Grow.alloc _ _) (by simp) C.d k _, fun k' B hB => ?_⟩
    · simp only [execOp, ex, ey, Sem.run_bind, h1, Result.andThen_ok, Sem.run_pure]
    · injection hB with hB; injection hB with e1 e2; subst e1; subst e2
      refine ⟨List.replicate n z, ?_, hsl, fun j x q c v hx hc hv => ?_, fun b hb => ?_⟩
      · simp only [Gh.nw, if_true]
        refine ⟨by simp, .inr ⟨w.heap.size, n, madeCells z.cells (n * i.size), by simp, Nat.zero_le _, heap_alloc_new w _, by simp, hcap, by simp [hi3, madeCells], ?_⟩⟩
        rw [ecs]; simp
      · rw [List.getElem?_replicate] at hx
        split at hx
        · injection hx with hx; subst hx
          have hvz : v = z := by
            rw [List.getElem?_replicate] at hv
            split at hv
            · injection hv with hv; exact hv.symm
            · simp at hv
          rw [hvz]; exact hzr _ q c hc
        · simp at hx
      · simp only [Gh.nw, if_true, blkOf] at hb
        injection hb with hb; subst hb
        exact ⟨by simp [Gh.nw], .inl hr.ext.size⟩
/-- The nil slice in a box, as an empty row of one's own. -/
theorem Imp.mkrowB {α : Type} (enc : α → List AV) (E s b k E0 : Nat) (ht : lk st.h b = some (.box [.nils] E0)) (hf : st.fr k = true) : Imp C st { t := st.t, h := (b, .box [.own k] E0) :: (k, .row enc [] E s) :: st.h } := fun g a w hr => by
  have hbk : b ≠ k := fun e => by
    subst e
    simp [St.fr] at hf
    exact (frH_lk hf.2 ht).2 rfl
  obtain ⟨b1, vs, e1, e2, e3, e4, e5, e6⟩ := hr.sat.blk b _ ht
  have ha : Add (some k) g w { ρ := fun n => if n = k then .slice none 0 0 else g.ρ n, I := g.I, O := g.O } w := ⟨Im.le_refl _, fun n hn => by
    have : n ≠ k := fun e => hn (by rw [e])
    simp [this], fun _ _ => rfl, Grow.refl w⟩
  have h1 := hr.add (d := none) (x := .any) (v := .nilIface) ha (fun n hn => by injection hn with hn; subst hn; exact hf) (fun t h => by simp at h) (.any _) hr.sat.im hr.sat.ob
  have h2 := h1.withBlk (k := k) (B := .row enc [] E s) ⟨[], ⟨by simp, .inl ⟨by simp, rfl⟩⟩, fun i x h => by simp at h, fun i x j c v h => by simp at h, fun b hb => by simp [blkOf] at hb⟩
  refine ⟨_, h2.withBlk (k := b) (B := .box [.own k] E0) ⟨b1, vs, by simp [hbk, e1], e2, e3, e4, e5, fun j c v hc hv => ?_⟩⟩
  have hj : j = 0 := by
    have := (List.getElem?_eq_some_iff.1 hc).1
    simp at this; omega
  subst hj
  simp at hc; subst hc
  have := inv_nils (e6 0 .nils v rfl hv)
  rw [this]
  exact .own k none 0 0 (by simp)
end
end Go.Rse
