/-
  Contracts of the library's shelf, as the small logic takes them.
-/
import Derived.Test.YtfiiobachmglpaaGreatDoorSLogB
import Derived.Test.YtfiiobachmglpaaGreatDoorSLogC
import Derived.Test.YtfiiobachmglpaaGreatDoorSShelf0
import Derived.Sort.OwnSortedInts
set_option linter.unusedVariables false
namespace Go.Rse
open Go Go.Proofs
theorem row_ints {I : Im} {l : List Int} {xs : List Value} (hl : xs.length = l.length * 1) (h : ∀ (i : Nat) (x : Int) (j : Nat) (c : AV) (v : Value), l[i]? = some x -> (intE x)[j]? = some c -> xs[i * 1 + j]? = some v -> RV I noNames c v) : xs = l.map (Value.int .i64) := by
 apply List.ext_getElem?
 intro i
 rw [List.getElem?_map]
 cases hx : l[i]? with
 | none =>
  have : l.length <= i := by simpa using hx
  rw [List.getElem?_eq_none (by omega)]; rfl
 | some x =>
  have hlt : i < xs.length := by have := (List.getElem?_eq_some_iff.1 hx).1; omega
  have hv := h i x 0 (iv x) xs[i] hx rfl (by simp [List.getElem?_eq_getElem hlt])
  rw [List.getElem?_eq_getElem hlt, inv_int hv]; rfl
theorem ints_row {I : Im} {l : List Int} : ∀ (i : Nat) (x : Int) (j : Nat) (c : AV) (v : Value), l[i]? = some x -> (intE x)[j]? = some c -> (l.map (Value.int .i64))[i * 1 + j]? = some v -> RV I noNames c v := fun i x j c v hx hc hv => by
 cases j with
 | zero =>
  simp [intE] at hc
  simp [hx] at hv
  subst hc; subst hv; exact .int _ _
 | succ j => simp [intE] at hc
theorem row_end {d : Nat} {ρ ρ' : Nat -> Value} {I : Im} {O : Owns} {w w' : World} {E : TypeId} {l l' : List Int} {b : Nat} (hsat : Sat (C0 0 d ⟨ρ, I, O⟩ w) [(2000000, .row intE l E 1)] ⟨ρ, I, O⟩ w) (hρ : ∀ n, n ≠ 2000000 -> ρ' n = ρ n) (hb : blkOf (ρ 2000000) = some b) (hb' : blkOf (ρ' 2000000) = some b)
 (hm : w.grownBy w' (some b)) (hdw : w.drawn <= w'.drawn) (hw : w'.ownsRow 0 E 1 (ρ' 2000000) l'.length (l'.map (Value.int .i64))) :
 Sat (C0 0 d ⟨ρ, I, O⟩ w) [(2000000, .row intE l' E 1)] ⟨ρ', I, O⟩ w' /\ Ext (C0 0 d ⟨ρ, I, O⟩ w) ⟨ρ', I, O⟩ w' := by
 have hrel : Rel (C0 0 d ⟨ρ, I, O⟩ w) ⟨[], [(2000000, .row intE l E 1)]⟩ ⟨ρ, I, O⟩ { tmps := #[], defers := [] } w := ⟨rfl, Dfs.nil _ _ _, fun t x h => by simp [lk] at h, hsat, ⟨Im.le_refl _, rfl, rfl, rfl, Nat.le_refl _, Nat.le_refl _, fun _ _ _ _ => ⟨rfl, rfl⟩, fun b y n _ hy => ⟨n, hy⟩⟩⟩
 obtain ⟨xs, hw0, h1, h2, h3⟩ := hsat.blk 2000000 _ rfl
 have h4 := h3 b hb
 have hr := hrel.modifyR (g' := ⟨ρ', I, O⟩) (k := 2000000) (bo := some b) (B := .row intE l' E 1) (d := none) (x := .any) (v := .nilIface) rfl hρ (fun _ _ => rfl) (fun b' e => by injection e with e; subst e; exact h4) hm hdw (hsat.ob.up (Im.le_refl _) hm.size) rfl (.any _)
  ⟨l'.map (Value.int .i64), hw, fun i x _ => rfl, ints_row, fun b' hb2 => by
   have : b' = b := by rw [hb'] at hb2; simpa using hb2.symm
   subst this; exact h4⟩
 refine ⟨⟨hr.sat.im, hr.sat.ob, fun k B hB => hr.sat.blk k B ?_⟩, hr.ext⟩
 simp only [lk_cons] at hB ⊢
 cases hk : Nat.beq 2000000 k <;> simp [hk] at hB ⊢
 ·simp [lk] at hB
 ·exact hB
def srtI (l : List Int) : List Int := l.mergeSort fun x y => decide (x <= y)
theorem srtI_len (l : List Int) : (srtI l).length = l.length := List.length_mergeSort l
theorem own_arg {I : Im} {ρ : Nat -> Value} {k : Nat} {args : List Value} (h : RVL I ρ [.own k] args) : args = [ρ k] := by
 obtain ⟨hl, hv⟩ := h
 match args, hl with
 | [v], _ => rw [inv_own (hv 0 _ v rfl rfl)]
theorem C_slices_Sort_int_int (l : List Int) (hl : l.length <= 4000000000) : FnO Tryz.prog 261 [.own 2000000] [(2000000, .row intE l 3 1)] [2000000] (.tup []) [(2000000, .row intE (srtI l) 3 1)] := by
 refine ⟨by kernel_rfl, fun d ρ I O w args hsat hargs => ?_⟩
 rw [own_arg hargs]
 obtain ⟨xs, hw, h1, h2, h3⟩ := hsat.blk 2000000 _ rfl
 have hxs := row_ints hw.1 h2
 rcases hw.2 with ⟨hv, h0⟩ | ⟨b, cap, cur, hv, hb0, hh, hnc, hcm, hcur, htk⟩
 ·have hv : ρ 2000000 = .slice none 0 0 := hv
  have hl0 : l = [] := List.eq_nil_of_length_eq_zero h0
  subst hl0
  have e0 : srtI [] = [] := by simp [srtI]
  rw [hv, e0]
  refine Calls.mono (Tryz.slices_Sort_int_none none 0 w) ?_
  rintro e w' ⟨rfl, rfl⟩
  exact ⟨_, ρ, I, O, rfl, hsat, .tup [] [] rfl (fun j c v h => by simp at h), ⟨Im.le_refl _, rfl, rfl, rfl, Nat.le_refl _, Nat.le_refl _, fun _ _ _ _ => ⟨rfl, rfl⟩, fun b y n _ hy => ⟨n, hy⟩⟩, fun _ _ => rfl⟩
 ·have hv : ρ 2000000 = .slice (some ⟨b, 0, none⟩) l.length cap := hv
  rw [hv]
  have hhold := holds_of_blockI (ss := l) hh (by rw [← hxs, ← htk]; simp)
  refine Calls.mono (Tryz.slices_Sort_int b 0 cap l w hhold (heap_lt hh) (by omega)) ?_
  rintro e w' ⟨rfl, n, os, rfl⟩
  have hrow := ownsRow_sortedI (n := n) (os := os) (base := 0) (ss := l) (ts := srtI l) (srtI_len l) hb0 hh hnc hcm (by simpa using hcur)
  obtain ⟨s1, s2⟩ := row_end (ρ' := ρ) (l' := srtI l) hsat (fun _ _ => rfl) (by rw [hv]; rfl) (by rw [hv]; rfl) (grownBy_sortedI (n := n) (os := os) (srtI l).toArray) (by show w.drawn <= w.drawn + n; omega) (by rw [hv, srtI_len]; exact hrow)
  exact ⟨_, ρ, I, O, rfl, s1, .tup [] [] rfl (fun j c v h => by simp at h), s2, fun _ _ => rfl⟩
theorem C_slices_Compact_int_int (l : List Int) (hl : l.length <= 4000000000) : FnO Tryz.prog 262 [.own 2000000] [(2000000, .row intE l 3 1)] [] (.own 2000000) [(2000000, .row intE (Lib.compact l) 3 1)] := by
 refine ⟨by kernel_rfl, fun d ρ I O w args hsat hargs => ?_⟩
 rw [own_arg hargs]
 obtain ⟨xs, hw, h1, h2, h3⟩ := hsat.blk 2000000 _ rfl
 have hxs := row_ints hw.1 h2
 rcases hw.2 with ⟨hv, h0⟩ | ⟨b, cap, cur, hv, hb0, hh, hnc, hcm, hcur, htk⟩
 ·have hv : ρ 2000000 = .slice none 0 0 := hv
  have hl0 : l = [] := List.eq_nil_of_length_eq_zero h0
  subst hl0
  have e0 : Lib.compact ([] : List Int) = [] := rfl
  rw [hv, e0]
  refine Calls.mono (Tryz.slices_Compact_int_empty none 0 w) ?_
  rintro e w' ⟨rfl, rfl⟩
  exact ⟨_, ρ, I, O, rfl, hsat, .own _ _ _ _ hv, ⟨Im.le_refl _, rfl, rfl, rfl, Nat.le_refl _, Nat.le_refl _, fun _ _ _ _ => ⟨rfl, rfl⟩, fun b y n _ hy => ⟨n, hy⟩⟩, fun _ h => by simp at h⟩
 ·have hv : ρ 2000000 = .slice (some ⟨b, 0, none⟩) l.length cap := hv
  rw [hv]
  have hhold := holds_of_blockI (ss := l) hh (by rw [← hxs, ← htk]; simp)
  refine Calls.mono (Tryz.slices_Compact_int b 0 cap l w hhold (by omega) hnc) ?_
  rintro e w' ⟨rfl, n, rfl⟩
  have hcl : (Lib.compact l).length <= l.length := Lib.compact_length_le l
  have hrow := ownsRow_sortedI (n := n) (os := #[]) (base := 0) (ss := l) (ts := Lib.compact l ++ List.replicate (l.length - (Lib.compact l).length) 0) (by simp; omega) hb0 hh hnc hcm (by simpa using hcur)
  have hgb := grownBy_sortedI (w := w) (g := b) (n := n) (os := #[]) (Lib.compact l ++ List.replicate (l.length - (Lib.compact l).length) 0).toArray
  rw [Sort.grow_empty] at hrow hgb
  obtain ⟨s1, s2⟩ := row_end (ρ' := fun k => if k = 2000000 then .slice (some ⟨b, 0, none⟩) (Lib.compact l).length cap else ρ k) (l' := Lib.compact l) hsat (fun k hk => by simp [hk]) (by rw [hv]; rfl) (by simp [blkOf]) hgb (by show w.drawn <= w.drawn + n; omega) (by
   refine ⟨by simp, ?_⟩
   rcases hrow.2 with ⟨h, _⟩ | ⟨g', cap', cur', hv', hb', hh', hn', hm', hc', ht'⟩
   ·simp at h
   ·simp at hv'
    obtain ⟨rfl, rfl⟩ := hv'
    refine .inr ⟨b, cap, cur', by simp, hb', hh', by omega, hm', hc', ?_⟩
    have := congrArg (List.take ((Lib.compact l).length * 1)) ht'
    rw [List.take_take] at this
    simp only [Nat.mul_one, List.map_append] at this ⊢
    rw [Nat.min_eq_left hcl] at this
    rw [this, List.take_append_of_le_length (by simp), List.take_of_length_le (by simp)])
  exact ⟨_, _, I, O, rfl, s1, .own _ _ _ _ (by simp), s2, fun _ h => by simp at h⟩
end Go.Rse
