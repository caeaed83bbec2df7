/-
  Walks: segments by definition, their counts, sums of first and of last items.
  Walks: which choices are allowed at a level, by definition (the state is only read).
  Walks: counts and segments by definition.
-/
import Derived.Test.YtfiiobachmglpaaGreatDoorCLvlB
import Derived.Test.YtfiiobachmglpaaGreatDoorCLogB
import Derived.Test.YtfiiobachmglpaaGreatDoorCLogC
import Derived.Test.YtfiiobachmglpaaGreatDoorCLevA
import Derived.Test.YtfiiobachmglpaaGreatDoorCTime
import Derived.Test.YtfiiobachmglpaaGreatDoorCMens2
set_option linter.unusedSimpArgs false
set_option linter.unusedVariables false
namespace Go.Rse
open Go Go.Proofs
attribute [local irreducible] Pur StepA StepM Ex X Fn Imp LeV LeB FnO It YStep FnW FnOW
attribute [local irreducible] fsA fsL drL addV addE subV subE divV divE sumF itR
end Go.Rse
namespace Go.Rse
open Go Go.Proofs
attribute [local irreducible] Pur StepA StepM Ex X Fn Imp LeV LeB FnO It YStep FnW FnOW
attribute [local irreducible] fsL fsA lgQ rcQ cmpV addV addE subV subE drL itR
end Go.Rse
namespace Go.Rse
open Go Go.Proofs
attribute [local irreducible] Pur StepA StepM Ex X Fn Imp LeV LeB FnO It YStep FnW FnOW
attribute [local irreducible] fsA addV addE subV subE lsE cnA cnB cnC cnE cnV cn1 divE divV sumF itR drL
end Go.Rse
namespace Go.Rse
open Go Go.Proofs
attribute [local irreducible] Pur StepA StepM Ex X Fn Imp LeV LeB FnO It YStep FnW FnOW
attribute [local irreducible] addV addE subV subE chA chB chN
end Go.Rse
namespace Go.Rse
open Go Go.Proofs
attribute [local irreducible] Pur StepA StepM Ex X Fn Imp LeV LeB FnO It YStep FnW FnOW
attribute [local irreducible] stK okJ alK alQ chN chL segV segE unT
end Go.Rse
namespace Go.Rse
open Go Go.Proofs
attribute [local irreducible] Pur StepA StepM Ex X Fn Imp LeV LeB FnO It YStep FnW FnOW
theorem tmkT_nn (n d : Int) : 0 <= (tmkT n d).N := by
 unfold tmkT
 split
 ·rename_i h
  unfold tmkE at h
  split at h
  ·cases h
  ·refine Int.ediv_nonneg (by omega) ?_
   unfold gI; omega
 ·exact Int.le_refl _
theorem cnV_nn (u : Tm) (l : List Ite) (s : Sgm) : 0 <= (cnV u l s).N := by
 unfold cnV
 split
 ·unfold divV
  split
  ·split
   ·exact Int.le_refl _
   ·unfold tmsV
    split
    ·exact Int.le_refl _
    ·exact tmkT_nn _ _
  ·exact Int.le_refl _
 ·exact Int.le_refl _
theorem sgV_nn (m : Mn) (k : Int) (l : List Ite) : ∀ s ∈ segV m k l, 0 <= s.Count.N := by
 unfold segV
 split
 ·intro s hs
  obtain ⟨t, ht, rfl⟩ := List.mem_map.1 hs
  exact cnV_nn _ _ _
 ·intro s hs; cases hs
section
variable {m : Mn} {k : Int} {l : List Ite} {M : List Int}
theorem al_a (h : ¬ segE m k l = 0) : alE m k l M = segE m k l /\ alV m k l M = [] := by
 have : alE m k l M = segE m k l := by unfold alE; rw [if_neg h]
 refine ⟨this, ?_⟩; unfold alV; rw [this, if_neg h]
theorem al_b (h : segE m k l = 0) (h2 : (segV m k l).length <= M.length \/ okJ (unT m k) k (segV m k l) l M M.length = false) : alE m k l M = 2 /\ alV m k l M = [] := by
 have : alE m k l M = 2 := by unfold alE; rw [if_pos h, if_pos h2]
 refine ⟨this, ?_⟩; unfold alV; rw [this, if_neg (by decide)]
theorem al_d (h : segE m k l = 0) (h2 : ¬ ((segV m k l).length <= M.length \/ okJ (unT m k) k (segV m k l) l M M.length = false)) : alE m k l M = 0 /\ alV m k l M = alK (unT m k) k (segV m k l) l M M.length := by
 have : alE m k l M = 0 := by unfold alE; rw [if_pos h, if_neg h2]
 refine ⟨this, ?_⟩; unfold alV; rw [if_pos this]
theorem ap_a (h : ¬ segE m k l = 0) : apE m k l M = segE m k l /\ apV m k l M = [] := by
 have : apE m k l M = segE m k l := by unfold apE; rw [if_neg h]
 refine ⟨this, ?_⟩; unfold apV; rw [this, if_neg h]
theorem ap_b (h : segE m k l = 0) (h2 : ¬ (segV m k l).length = M.length \/ okJ (unT m k) k (segV m k l) l M M.length = false) : apE m k l M = 2 /\ apV m k l M = [] := by
 have : apE m k l M = 2 := by unfold apE; rw [if_pos h, if_pos h2]
 refine ⟨this, ?_⟩; unfold apV; rw [this, if_neg (by decide)]
theorem ap_d (h : segE m k l = 0) (h2 : ¬ (¬ (segV m k l).length = M.length \/ okJ (unT m k) k (segV m k l) l M M.length = false)) : apE m k l M = 0 /\ apV m k l M = (stK (unT m k) (segV m k l) l M M.length).1 := by
 have : apE m k l M = 0 := by unfold apE; rw [if_pos h, if_neg h2]
 refine ⟨this, ?_⟩; unfold apV; rw [if_pos this]
end
theorem C_level_Allowed (m : Mn) (k : Int) (l : List Ite) (M : List Int) (h0 : -9223372036854775808 <= k) (h1 : k <= 9223372036854775807) (hl : l.length <= 1000000) (hM : M.length <= 4000000) : Fn Tryz.prog 64 [mnA m, iv k, itsA l, intsA M] (.tup [intsA (alV m k l M), iv (alE m k l M)]) := by
 by_cases hE : segE m k l = 0
 ·by_cases hX : (segV m k l).length <= M.length
  ·obtain ⟨e1, e2⟩ := al_b hE (.inl hX); rw [e1, e2]
   exact C_level_Allowed_b m k l M h0 h1 hl hM hE (by simpa using hX)
  ·by_cases hO : okJ (unT m k) k (segV m k l) l M M.length = false
   ·obtain ⟨e1, e2⟩ := al_b hE (.inr hO); rw [e1, e2]
    exact C_level_Allowed_c m k l M h0 h1 hl hM hE (by simp; omega) (hok := hO) (hN := sgV_nn m k l) (hMS := by omega)
   ·obtain ⟨e1, e2⟩ := al_d hE (fun h => h.elim hX hO); rw [e1, e2]
    exact C_level_Allowed_d m k l M h0 h1 hl hM hE (by simp; omega) (hok := by simpa using hO) (hN := sgV_nn m k l) (hMS := by omega)
 ·obtain ⟨e1, e2⟩ := al_a (M := M) hE; rw [e1, e2]
  exact C_level_Allowed_a m k l M h0 h1 hl hM hE
theorem C_level_Apply (m : Mn) (k : Int) (l : List Ite) (M : List Int) (h0 : -9223372036854775808 <= k) (h1 : k <= 9223372036854775807) (hl : l.length <= 1000000) (hM : M.length <= 4000000) : Fn Tryz.prog 36 [mnA m, iv k, itsA l, intsA M] (.tup [itsA (apV m k l M), iv (apE m k l M)]) := by
 by_cases hE : segE m k l = 0
 ·by_cases hX : (segV m k l).length = M.length
  ·by_cases hO : okJ (unT m k) k (segV m k l) l M M.length = false
   ·obtain ⟨e1, e2⟩ := ap_b hE (.inr hO); rw [e1, e2]
    exact C_level_Apply_c m k l M h0 h1 hl hM hE (by simp; omega) (hok := hO) (hN := sgV_nn m k l) (hMS := by omega)
   ·obtain ⟨e1, e2⟩ := ap_d hE (fun h => h.elim (fun g => g hX) hO); rw [e1, e2]
    exact C_level_Apply_d m k l M h0 h1 hl hM hE (by simp; omega) (hok := by simpa using hO) (hN := sgV_nn m k l) (hMS := by omega)
  ·obtain ⟨e1, e2⟩ := ap_b hE (.inl hX); rw [e1, e2]
   exact C_level_Apply_b m k l M h0 h1 hl hM hE (by simp; omega)
 ·obtain ⟨e1, e2⟩ := ap_a (M := M) hE; rw [e1, e2]
  exact C_level_Apply_a m k l M h0 h1 hl hM hE
end Go.Rse
namespace Go.Rse
open Go Go.Proofs
attribute [local irreducible] Pur StepA StepM Ex X Fn Imp LeV LeB FnO It YStep FnW FnOW
attribute [local irreducible] stK okJ alK alQ chN chL segV segE unT
end Go.Rse
namespace Go.Rse
open Go Go.RowKit
end Go.Rse
namespace Go.Rse
open Go Go.RowKit
section
variable {P : Program} {C : Ctx} {st : St} {ty : TypeId} {Q : Exit -> St -> Prop}
end
end Go.Rse
namespace Go.Rse
open Go Go.RowKit
section
variable {P : Program} {C : Ctx} {st : St} {ty : TypeId}
end
end Go.Rse
namespace Go.Rse
open Go Go.RowKit
section
variable {P : Program} {C : Ctx} {st : St} {ty : TypeId}
end
end Go.Rse
namespace Go.Rse
open Go Go.Proofs
section
variable {m : Mn} {k : Int} {l : List Ite} {n : Nat}
end
theorem alK_len (u : Tm) (k : Int) (S : List Sgm) (l : List Ite) (M : List Int) (n : Nat) : (alK u k S l M n).length <= 5 := by
 unfold alK alQ alR
 simp only [List.length_append]
 have h : ∀ (p : Prop) [Decidable p] (x : Int), (if p then [x] else []).length <= 1 := fun p _ x => by split <;> simp
 have a1 := h
 refine Nat.le_trans (Nat.add_le_add (Nat.add_le_add (Nat.add_le_add (Nat.add_le_add (h _ _) (h _ _)) (h _ _)) (h _ _)) (h _ _)) (by omega)
end Go.Rse
namespace Go.Rse
open Go Go.Proofs
theorem apV_len {m : Mn} {k : Int} {l : List Ite} {M : List Int} (h : apE m k l M = 0) : (apV m k l M).length = l.length := by
 unfold apV; rw [if_pos h]; exact stK_len _ _ _ _ _
section
variable {m : Mn} {l : List Ite} {n : Nat} {k : Int}
theorem pfl_len (m : Mn) : (perfL m).length <= 4 := by
 unfold perfL; exact List.length_filter_le _ _
theorem pfl_at (hk : (perfL m)[n]? = some k) : 1 <= k /\ k <= 4 := by
 have h := List.mem_of_getElem? hk
 rw [perfL_mem] at h; exact ⟨h.1, h.2.1⟩
end
end Go.Rse
namespace Go.Rse
open Go Go.Proofs
attribute [local irreducible] Pur StepA StepM Ex X Fn Imp LeV LeB FnO It YStep FnW FnOW
end Go.Rse
namespace Go.Rse
open Go Go.Proofs
attribute [local irreducible] Pur StepA StepM Ex X Fn Imp LeV LeB FnO It YStep FnW FnOW
attribute [local irreducible] stK okJ alK alQ segV segE unT
end Go.Rse
namespace Go.Rse
open Go Go.Proofs
attribute [local irreducible] Pur StepA StepM Ex X Fn Imp LeV LeB FnO It YStep FnW FnOW
attribute [local irreducible] apV apE ckM perfL ckIE ckIX
end Go.Rse
namespace Go.Rse
open Go Go.Proofs
attribute [local irreducible] Pur StepA StepM Ex X Fn Imp LeV LeB FnO It YStep
theorem take_step {α : Type} {a b : List α} {k : Nat} {x : α} (ha : a[k]? = some x) (hb : b[k]? = some x) (h : a.take k = b.take k) : a.take (k + 1) = b.take (k + 1) := by
 rw [List.take_add_one, List.take_add_one, ha, hb, h]
theorem eq_take {α : Type} {a b : List α} {k : Nat} (hl : a.length = b.length) (hk : a.length <= k) (h : a.take k = b.take k) : a = b := by
 rwa [List.take_of_length_le hk, List.take_of_length_le (by omega)] at h
theorem ne_at {α : Type} {a b : List α} {k : Nat} {x y : α} (ha : a[k]? = some x) (hb : b[k]? = some y) (h : x ≠ y) : a ≠ b := fun e => by
 subst e; rw [ha] at hb; injection hb with hb; exact h hb
def sgDot : Sg := ⟨3, 0, 0, 0, false, 0, false, false, ⟨0, 0, 0, 0⟩, false, 0, 0, 0, 0⟩
def mCirc : Mn := ⟨2, 2, 3, 2⟩
theorem tmod_fix {a n : Int} (hn : 0 < n) : (a.tmod n < 0 -> a.tmod n + n = a % n) /\ (¬ a.tmod n < 0 -> a.tmod n = a % n) /\ -n < a.tmod n /\ a.tmod n < n := by
 rw [Int.tmod_eq_emod]
 have h0 := Int.emod_nonneg a (show n ≠ 0 by omega)
 have h1 := Int.emod_lt_of_pos a hn
 split <;> omega
def mMk (n : Int) : Mn := ⟨2 + n % 16 / 8, 2 + n % 16 / 4 % 2, 2 + n % 16 / 2 % 2, 2 + n % 16 % 2⟩
def atV (l : List Int) (i : Int) : Int := if i < 0 \/ (l.length : Int) <= i then 0 else l.getD i.toNat default
theorem atV_rng {l : List Int} (hr : ∀ x, x ∈ l -> -9223372036854775808 <= x /\ x <= 9223372036854775807) (i : Int) : -9223372036854775808 <= atV l i /\ atV l i <= 9223372036854775807 := by
 unfold atV
 split
 ·omega
 ·rename_i h
  have hlt : i.toNat < l.length := by omega
  rw [List.getD_eq_getElem?_getD, List.getElem?_eq_getElem hlt]
  exact hr _ (List.getElem_mem hlt)
attribute [local irreducible] gI mMk
theorem C_tactuskit_SameInts (a b : List Int) (hl : a.length <= 4000000000) : Fn Tryz.prog 22 [intsA a, intsA b] (.bool (decide (a = b))) := by
 refine Fn.go Tryz.func22 Tryz.ntmps22 (fun g w d => ?_)
 apply X.sr
 refine Ex.pu ?_
 apply Ex.nil
 apply X.seq
 apply X.sr
 iterate 5 refine Ex.pu ?_
 apply Ex.nil
 refine X.cd rfl (fun hc1 => ?_) (fun hc1 => ?_)
 ·apply X.sr
  refine Ex.pu ?_
  apply Ex.nil
  refine X.ret ?_
  refine RetQ.ret (.one (.tmp rfl (LeV.eq ?_)))
  all_goals (congr 1; exact (decide_eq_false fun e => by subst e; omega).symm)
 apply X.skip
 apply X.seq
 apply X.sr
 refine Ex.pu ?_
 apply Ex.nil
 apply X.block
 refine X.lp (ι := Nat) (fun (k : Nat) => [(0, intsA a), (1, intsA b), (5, iv (k : Int))]) (fun (k : Nat) => []) (fun (k : Nat) => k <= a.length /\ a.take k = b.take k) (fun (k : Nat) => a.length - k) 0 (fun k hk => ?_) (hJ := by
  exact ⟨by omega, rfl⟩)
 obtain ⟨hk1, hk2⟩ := hk
 apply X.seq
 apply X.sr
 iterate 4 refine Ex.pu ?_
 apply Ex.nil
 refine X.cd rfl (fun hc2 => ?_) (fun hc2 => ?_)
 ·obtain ⟨x, hx⟩ : ∃ x, a[k]? = some x := ⟨_, List.getElem?_eq_getElem (by omega)⟩
  have hx2 : a[(k : Int).toNat]? = some x := by simpa using hx
  obtain ⟨y, hy⟩ : ∃ y, b[k]? = some y := ⟨_, List.getElem?_eq_getElem (by omega)⟩
  have hy2 : b[(k : Int).toNat]? = some y := by simpa using hy
  apply X.skip
  apply X.seq
  apply X.block
  apply X.seq
  refine X.dw [17,18,19,20,21,22,23,24,25] [0,0,3,7,0,0,48,112,255] mo ?_
  iterate 9 refine ChM.pu ?_
  refine ChM.tl ?_
  apply Ex.nil
  refine X.cd rfl (fun hc3 => ?_) (fun hc3 => ?_)
  ·apply X.sr
   refine Ex.pu ?_
   apply Ex.nil
   refine X.ret ?_
   refine RetQ.ret (.one (.tmp rfl (LeV.eq ?_)))
   all_goals (congr 1; exact (decide_eq_false (ne_at hx hy (by simpa using hc3))).symm)
  apply X.skip
  apply X.region
  iterate 3 refine Ex.pu ?_
  apply Ex.nil
  refine X.bk (k + 1) (hJ := by
   exact ⟨by omega, take_step hx (by rw [hy]; congr 1; first | exact (by simpa using hc3 : x = y).symm | (simp at hc3; exact hc3.symm)) hk2⟩)
 ·apply X.exit
  apply X.sr
  refine Ex.pu ?_
  apply Ex.nil
  refine X.ret ?_
  refine RetQ.ret (.one (.tmp rfl (LeV.eq ?_)))
  all_goals (congr 1; exact (decide_eq_true (eq_take (by omega) (by omega) hk2)).symm)
theorem C_tactuskit_SameTimes (a b : List Tm) (hl : a.length <= 4000000000) : Fn Tryz.prog 41 [tmsA a, tmsA b] (.bool (decide (a = b))) := by
 refine Fn.go Tryz.func41 Tryz.ntmps41 (fun g w d => ?_)
 apply X.sr
 refine Ex.pu ?_
 apply Ex.nil
 apply X.seq
 apply X.sr
 iterate 5 refine Ex.pu ?_
 apply Ex.nil
 refine X.cd rfl (fun hc1 => ?_) (fun hc1 => ?_)
 ·apply X.sr
  refine Ex.pu ?_
  apply Ex.nil
  refine X.ret ?_
  refine RetQ.ret (.one (.tmp rfl (LeV.eq ?_)))
  all_goals (congr 1; exact (decide_eq_false fun e => by subst e; omega).symm)
 apply X.skip
 apply X.seq
 apply X.sr
 refine Ex.pu ?_
 apply Ex.nil
 apply X.block
 refine X.lp (ι := Nat) (fun (k : Nat) => [(0, tmsA a), (1, tmsA b), (5, iv (k : Int))]) (fun (k : Nat) => []) (fun (k : Nat) => k <= a.length /\ a.take k = b.take k) (fun (k : Nat) => a.length - k) 0 (fun k hk => ?_) (hJ := by
  exact ⟨by omega, rfl⟩)
 obtain ⟨hk1, hk2⟩ := hk
 apply X.seq
 apply X.sr
 iterate 4 refine Ex.pu ?_
 apply Ex.nil
 refine X.cd rfl (fun hc2 => ?_) (fun hc2 => ?_)
 ·obtain ⟨x, hx⟩ : ∃ x, a[k]? = some x := ⟨_, List.getElem?_eq_getElem (by omega)⟩
  have hx2 : a[(k : Int).toNat]? = some x := by simpa using hx
  obtain ⟨y, hy⟩ : ∃ y, b[k]? = some y := ⟨_, List.getElem?_eq_getElem (by omega)⟩
  have hy2 : b[(k : Int).toNat]? = some y := by simpa using hy
  apply X.skip
  apply X.seq
  apply X.block
  apply X.seq
  refine X.dw [17,18,19,20,21,22,23,24,25] [0,0,3,7,0,0,48,112,255] mo ?_
  iterate 9 refine ChM.pu ?_
  refine ChM.tl ?_
  apply Ex.nil
  refine X.cd rfl (fun hc3 => ?_) (fun hc3 => ?_)
  ·apply X.sr
   refine Ex.pu ?_
   apply Ex.nil
   refine X.ret ?_
   refine RetQ.ret (.one (.tmp rfl (LeV.eq ?_)))
   all_goals (congr 1; exact (decide_eq_false (ne_at hx hy (by simpa using hc3))).symm)
  apply X.skip
  apply X.region
  iterate 3 refine Ex.pu ?_
  apply Ex.nil
  refine X.bk (k + 1) (hJ := by
   exact ⟨by omega, take_step hx (by rw [hy]; congr 1; first | exact (by simpa using hc3 : x = y).symm | (simp at hc3; exact hc3.symm)) hk2⟩)
 ·apply X.exit
  apply X.sr
  refine Ex.pu ?_
  apply Ex.nil
  refine X.ret ?_
  refine RetQ.ret (.one (.tmp rfl (LeV.eq ?_)))
  all_goals (congr 1; exact (decide_eq_true (eq_take (by omega) (by omega) hk2)).symm)
theorem C_tactuskit_OwnSignsO (l : List Sg) (hl : l.length <= 4000) : FnO Tryz.prog 40 [sgsA l] [] [] (.own 3) [(3, .row sgE l 67 17)] := by
 refine FnO.intro (ts := [(0, sgsA l)]) (rv := [.tmp 2]) (n := 6) (cs := []) (by kernel_rfl) Tryz.func40 rfl Tryz.ntmps40 rfl rfl (by simp) rfl rfl rfl rfl (fun g w d vs => ?_)
 apply X.sr
 refine Ex.pu ?_
 apply Ex.ns
 refine Ex.bs sgE [] ?_
 refine Ex.pu ?_
 refine Ex.mo ?_
 refine Ex.pu ?_
 apply Ex.nil
 refine X.ret ?_
 refine RetQO.mk (ts := [(2, .own 3)]) (.inr rfl) (Imp.au) (.one (.tmp rfl (LeV.eq rfl)))
theorem C_tactuskit_Mod (a n : Int) (ha : -9223372036854775808 <= a /\ a <= 9223372036854775807) (hn : 1 <= n /\ n <= 4611686018427387904) : Fn Tryz.prog 45 [iv a, iv n] (iv (a % n)) := by
 obtain ⟨ht1, ht2, ht3, ht4⟩ := tmod_fix (a := a) (n := n) (by omega)
 refine Fn.go Tryz.func45 Tryz.ntmps45 (fun g w d => ?_)
 apply X.sr
 refine Ex.pu ?_
 apply Ex.nil
 apply X.seq
 apply X.sr
 iterate 2 refine Ex.pu ?_
 apply Ex.nil
 refine X.cd rfl (fun hc1 => ?_) (fun hc1 => ?_)
 ·omega
 apply X.skip
 apply X.sr
 iterate 2 refine Ex.pu ?_
 refine Ex.pur (P_rem rfl rfl (by omega)) rfl ?_
 refine Ex.pu ?_
 apply Ex.nil
 apply X.seq
 apply X.sr
 iterate 2 refine Ex.pu ?_
 apply Ex.nil
 refine X.cd rfl (fun hc2 => ?_) (fun hc2 => ?_)
 ·apply X.region
  iterate 4 refine Ex.pu ?_
  apply Ex.ns
  iterate 2 refine Ex.pu ?_
  apply Ex.nil
  refine X.ret ?_
  refine RetQ.ret (.one (.tmp rfl (LeV.eq ?_)))
  all_goals (congr 1; exact ht1 (by omega))
 ·apply X.skip
  apply X.sr
  iterate 2 refine Ex.pu ?_
  apply Ex.nil
  refine X.ret ?_
  refine RetQ.ret (.one (.tmp rfl (LeV.eq ?_)))
  all_goals (congr 1; exact ht2 (by omega))
theorem C_tactuskit_Mens (n : Int) (hn : -9223372036854775808 <= n /\ n <= 9223372036854775807) : Fn Tryz.prog 24 [iv n] (mnA (mMk n)) := by
 unfold mMk
 refine Fn.go Tryz.func24 Tryz.ntmps24 (fun g w d => ?_)
 apply X.sr
 refine Ex.al ?_
 apply Ex.ns
 refine Ex.pu ?_
 refine Ex.ca (C_tactuskit_Mod n 16 hn (by omega)) ?_
 refine Ex.pu ?_
 apply Ex.ns
 iterate 15 refine Ex.pu ?_
 refine Ex.mo ?_
 apply Ex.nil
 refine X.ret ?_
 refine RetQ.ret (.one (.cellA rfl rfl rfl rfl ty23 (LeV.eq ?_)))
 all_goals (first | rfl | (simp_all; done))
theorem C_tactuskit_Parts (m : Mn) (v : Int) : Fn Tryz.prog 139 [mnA m, iv v] (iv (m.p v)) := by
 refine Fn.go Tryz.func139 Tryz.ntmps139 (fun g w d => ?_)
 apply X.sr
 refine Ex.ba ?_
 refine Ex.pu ?_
 apply Ex.nil
 apply X.seq
 apply X.sr
 refine Ex.pu ?_
 apply Ex.nil
 apply X.block
 apply X.sr
 iterate 2 refine Ex.pu ?_
 apply Ex.nil
 refine X.cd rfl (fun hc1 => ?_) (fun hc1 => ?_)
 ·apply X.sr
  iterate 3 refine Ex.pu ?_
  apply Ex.nil
  refine X.ret ?_
  refine RetQ.ret (.one (.tmp rfl (LeV.eq ?_)))
  all_goals (congr 1; unfold Mn.p; simp [*])
 apply X.sr
 iterate 2 refine Ex.pu ?_
 apply Ex.nil
 refine X.cd rfl (fun hc2 => ?_) (fun hc2 => ?_)
 ·apply X.sr
  iterate 3 refine Ex.pu ?_
  apply Ex.nil
  refine X.ret ?_
  refine RetQ.ret (.one (.tmp rfl (LeV.eq ?_)))
  all_goals (congr 1; unfold Mn.p; simp [*])
 apply X.sr
 iterate 2 refine Ex.pu ?_
 apply Ex.nil
 refine X.cd rfl (fun hc3 => ?_) (fun hc3 => ?_)
 ·apply X.sr
  iterate 3 refine Ex.pu ?_
  apply Ex.nil
  refine X.ret ?_
  refine RetQ.ret (.one (.tmp rfl (LeV.eq ?_)))
  all_goals (congr 1; unfold Mn.p; simp [*])
 apply X.sr
 iterate 2 refine Ex.pu ?_
 apply Ex.nil
 refine X.cd rfl (fun hc4 => ?_) (fun hc4 => ?_)
 ·apply X.sr
  iterate 3 refine Ex.pu ?_
  apply Ex.nil
  refine X.ret ?_
  refine RetQ.ret (.one (.tmp rfl (LeV.eq ?_)))
  all_goals (congr 1; unfold Mn.p; simp [*])
 apply X.skip
 apply X.sr
 refine Ex.pu ?_
 apply Ex.nil
 refine X.ret ?_
 refine RetQ.ret (.one (.tmp rfl (LeV.eq ?_)))
 all_goals (congr 1; unfold Mn.p; simp [*])
theorem C_tactuskit_At (l : List Int) (i : Int) : Fn Tryz.prog 46 [intsA l, iv i] (iv (atV l i)) := by
 refine Fn.go Tryz.func46 Tryz.ntmps46 (fun g w d => ?_)
 apply X.sr
 refine Ex.pu ?_
 apply Ex.nil
 apply X.seq
 apply X.sr
 iterate 2 refine Ex.pu ?_
 refine ExF.at 2 ?_
 refine ExF.pu ?_
 iterate 4 refine ExF.gi ?_
 refine ExF.done ?_
 refine Ex.pu ?_
 apply Ex.nil
 refine X.cd rfl (fun hc1 => ?_) (fun hc1 => ?_)
 ·apply X.sr
  refine Ex.pu ?_
  apply Ex.nil
  refine X.ret ?_
  refine RetQ.ret (.one (.tmp rfl (LeV.eq ?_)))
  all_goals (congr 1; unfold atV; rw [if_pos hc1])
 apply X.skip
 apply X.sr
 iterate 5 refine Ex.pu ?_
 apply Ex.nil
 refine X.ret ?_
 refine RetQ.ret (.one (.tmp rfl (LeV.eq ?_)))
 all_goals (congr 1; unfold atV; rw [if_neg (by omega)])
end Go.Rse
