/-
  Walks: what statements share: comparisons of lists, lists in new memory, numbers made small, mensurations and times made of numbers.
-/
import Derived.Test.YtfiiobachmglpaaGreatDoorSTime
import Derived.Test.YtfiiobachmglpaaGreatDoorSMens2
import Derived.Test.YtfiiobachmglpaaGreatDoorSLogB
import Derived.Test.YtfiiobachmglpaaGreatDoorSLogC
set_option linter.unusedSimpArgs false
set_option linter.unusedVariables false
namespace Go.Rse
open Go Go.Proofs
attribute [local irreducible] Pur StepA StepM Ex X ExG Fn Imp LeV LeB FnO It YStep
theorem take_step {α : Type} {a b : List α} {k : Nat} {x : α} (ha : a[k]? = some x) (hb : b[k]? = some x) (h : a.take k = b.take k) : a.take (k + 1) = b.take (k + 1) := by
 rw [List.take_add_one, List.take_add_one, ha, hb, h]
theorem eq_take {α : Type} {a b : List α} {k : Nat} (hl : a.length = b.length) (hk : a.length <= k) (h : a.take k = b.take k) : a = b := by
 rwa [List.take_of_length_le hk, List.take_of_length_le (by omega)] at h
theorem ne_at {α : Type} {a b : List α} {k : Nat} {x y : α} (ha : a[k]? = some x) (hb : b[k]? = some y) (h : x ≠ y) : a ≠ b := fun e => by
 subst e; rw [ha] at hb; injection hb with hb; exact h hb
def sgDot : Sg := ⟨3, 0, 0, 0, false, 0, false, false, ⟨0, 0, 0, 0⟩, false, 0, 0, 0, 0⟩
theorem tmod_fix {a n : Int} (hn : 0 < n) : (a.tmod n < 0 -> a.tmod n + n = a % n) /\ (¬ a.tmod n < 0 -> a.tmod n = a % n) /\ -n < a.tmod n /\ a.tmod n < n := by
 rw [Int.tmod_eq_emod]
 have h0 := Int.emod_nonneg a (show n ≠ 0 by omega)
 have h1 := Int.emod_lt_of_pos a hn
 split <;> omega
def mMk (n : Int) : Mn := ⟨2 + n % 16 / 8, 2 + n % 16 / 4 % 2, 2 + n % 16 / 2 % 2, 2 + n % 16 % 2⟩
theorem mMk_ck (n : Int) : ckM (mMk n) = 0 := by
 unfold ckM
 rw [if_pos]
 unfold Mn.Ok two3 mMk
 exact ⟨by show 2 + n % 16 / 8 = 2 \/ 2 + n % 16 / 8 = 3; omega, by show 2 + n % 16 / 4 % 2 = 2 \/ 2 + n % 16 / 4 % 2 = 3; omega, by show 2 + n % 16 / 2 % 2 = 2 \/ 2 + n % 16 / 2 % 2 = 3; omega, by show 2 + n % 16 % 2 = 2 \/ 2 + n % 16 % 2 = 3; omega⟩
attribute [local irreducible] gI mMk
theorem C_tactuskit_SameInts (a b : List Int) (hl : a.length <= 4000000000) : Fn Tryz.prog 22 [intsA a, intsA b] (.bool (decide (a = b))) := by
 refine Fn.go Tryz.func22 Tryz.ntmps22 (fun g w d => ?_)
 apply X.sr
 refine Ex.pu ?_
 apply Ex.nil
 apply X.seq
 apply X.sr
 iterate 5 refine Ex.pu ?_
 apply Ex.nil
 refine X.cd rfl (fun hc1 => ?_) (fun hc1 => ?_)
 ·apply X.sr
  refine Ex.pu ?_
  apply Ex.nil
  refine X.ret ?_
  refine RetQ.ret (.one (.tmp rfl (LeV.eq ?_)))
  all_goals (congr 1; exact (decide_eq_false fun e => by subst e; omega).symm)
 apply X.skip
 apply X.seq
 apply X.sr
 refine Ex.pu ?_
 apply Ex.nil
 apply X.block
 refine X.lp (ι := Nat) (fun (k : Nat) => [(0, intsA a), (1, intsA b), (5, iv (k : Int))]) (fun (k : Nat) => []) (fun (k : Nat) => k <= a.length /\ a.take k = b.take k) (fun (k : Nat) => a.length - k) 0 (fun k hk => ?_) (hJ := by
  exact ⟨by omega, rfl⟩)
 obtain ⟨hk1, hk2⟩ := hk
 apply X.seq
 apply X.sr
 iterate 4 refine Ex.pu ?_
 apply Ex.nil
 refine X.cd rfl (fun hc2 => ?_) (fun hc2 => ?_)
 ·obtain ⟨x, hx⟩ : ∃ x, a[k]? = some x := ⟨_, List.getElem?_eq_getElem (by omega)⟩
  have hx2 : a[(k : Int).toNat]? = some x := by simpa using hx
  obtain ⟨y, hy⟩ : ∃ y, b[k]? = some y := ⟨_, List.getElem?_eq_getElem (by omega)⟩
  have hy2 : b[(k : Int).toNat]? = some y := by simpa using hy
  apply X.skip
  apply X.seq
  apply X.block
  apply X.seq
  refine X.dw [17,18,19,20,21,22,23,24,25] [0,0,3,7,0,0,48,112,255] mo ?_
  iterate 9 refine ChM.pu ?_
  refine ChM.tl ?_
  apply Ex.nil
  refine X.cd rfl (fun hc3 => ?_) (fun hc3 => ?_)
  ·apply X.sr
   refine Ex.pu ?_
   apply Ex.nil
   refine X.ret ?_
   refine RetQ.ret (.one (.tmp rfl (LeV.eq ?_)))
   all_goals (congr 1; exact (decide_eq_false (ne_at hx hy (by simpa using hc3))).symm)
  apply X.skip
  apply X.region
  iterate 3 refine Ex.pu ?_
  apply Ex.nil
  refine X.bk (k + 1) (hJ := by
   exact ⟨by omega, take_step hx (by rw [hy]; congr 1; first | exact (by simpa using hc3 : x = y).symm | (simp at hc3; exact hc3.symm)) hk2⟩)
 ·apply X.exit
  apply X.sr
  refine Ex.pu ?_
  apply Ex.nil
  refine X.ret ?_
  refine RetQ.ret (.one (.tmp rfl (LeV.eq ?_)))
  all_goals (congr 1; exact (decide_eq_true (eq_take (by omega) (by omega) hk2)).symm)
theorem C_tactuskit_SameTimes (a b : List Tm) (hl : a.length <= 4000000000) : Fn Tryz.prog 41 [tmsA a, tmsA b] (.bool (decide (a = b))) := by
 refine Fn.go Tryz.func41 Tryz.ntmps41 (fun g w d => ?_)
 apply X.sr
 refine Ex.pu ?_
 apply Ex.nil
 apply X.seq
 apply X.sr
 iterate 5 refine Ex.pu ?_
 apply Ex.nil
 refine X.cd rfl (fun hc1 => ?_) (fun hc1 => ?_)
 ·apply X.sr
  refine Ex.pu ?_
  apply Ex.nil
  refine X.ret ?_
  refine RetQ.ret (.one (.tmp rfl (LeV.eq ?_)))
  all_goals (congr 1; exact (decide_eq_false fun e => by subst e; omega).symm)
 apply X.skip
 apply X.seq
 apply X.sr
 refine Ex.pu ?_
 apply Ex.nil
 apply X.block
 refine X.lp (ι := Nat) (fun (k : Nat) => [(0, tmsA a), (1, tmsA b), (5, iv (k : Int))]) (fun (k : Nat) => []) (fun (k : Nat) => k <= a.length /\ a.take k = b.take k) (fun (k : Nat) => a.length - k) 0 (fun k hk => ?_) (hJ := by
  exact ⟨by omega, rfl⟩)
 obtain ⟨hk1, hk2⟩ := hk
 apply X.seq
 apply X.sr
 iterate 4 refine Ex.pu ?_
 apply Ex.nil
 refine X.cd rfl (fun hc2 => ?_) (fun hc2 => ?_)
 ·obtain ⟨x, hx⟩ : ∃ x, a[k]? = some x := ⟨_, List.getElem?_eq_getElem (by omega)⟩
  have hx2 : a[(k : Int).toNat]? = some x := by simpa using hx
  obtain ⟨y, hy⟩ : ∃ y, b[k]? = some y := ⟨_, List.getElem?_eq_getElem (by omega)⟩
  have hy2 : b[(k : Int).toNat]? = some y := by simpa using hy
  apply X.skip
  apply X.seq
  apply X.block
  apply X.seq
  refine X.dw [17,18,19,20,21,22,23,24,25] [0,0,3,7,0,0,48,112,255] mo ?_
  iterate 9 refine ChM.pu ?_
  refine ChM.tl ?_
  apply Ex.nil
  refine X.cd rfl (fun hc3 => ?_) (fun hc3 => ?_)
  ·apply X.sr
   refine Ex.pu ?_
   apply Ex.nil
   refine X.ret ?_
   refine RetQ.ret (.one (.tmp rfl (LeV.eq ?_)))
   all_goals (congr 1; exact (decide_eq_false (ne_at hx hy (by simpa using hc3))).symm)
  apply X.skip
  apply X.region
  iterate 3 refine Ex.pu ?_
  apply Ex.nil
  refine X.bk (k + 1) (hJ := by
   exact ⟨by omega, take_step hx (by rw [hy]; congr 1; first | exact (by simpa using hc3 : x = y).symm | (simp at hc3; exact hc3.symm)) hk2⟩)
 ·apply X.exit
  apply X.sr
  refine Ex.pu ?_
  apply Ex.nil
  refine X.ret ?_
  refine RetQ.ret (.one (.tmp rfl (LeV.eq ?_)))
  all_goals (congr 1; exact (decide_eq_true (eq_take (by omega) (by omega) hk2)).symm)
theorem C_tactuskit_Mod (a n : Int) (ha : -9223372036854775808 <= a /\ a <= 9223372036854775807) (hn : 1 <= n /\ n <= 4611686018427387904) : Fn Tryz.prog 45 [iv a, iv n] (iv (a % n)) := by
 obtain ⟨ht1, ht2, ht3, ht4⟩ := tmod_fix (a := a) (n := n) (by omega)
 refine Fn.go Tryz.func45 Tryz.ntmps45 (fun g w d => ?_)
 apply X.sr
 refine Ex.pu ?_
 apply Ex.nil
 apply X.seq
 apply X.sr
 iterate 2 refine Ex.pu ?_
 apply Ex.nil
 refine X.cd rfl (fun hc1 => ?_) (fun hc1 => ?_)
 ·omega
 apply X.skip
 apply X.sr
 iterate 2 refine Ex.pu ?_
 refine Ex.pur (P_rem rfl rfl (by omega)) rfl ?_
 refine Ex.pu ?_
 apply Ex.nil
 apply X.seq
 apply X.sr
 iterate 2 refine Ex.pu ?_
 apply Ex.nil
 refine X.cd rfl (fun hc2 => ?_) (fun hc2 => ?_)
 ·apply X.region
  iterate 4 refine Ex.pu ?_
  apply Ex.ns
  iterate 2 refine Ex.pu ?_
  apply Ex.nil
  refine X.ret ?_
  refine RetQ.ret (.one (.tmp rfl (LeV.eq ?_)))
  all_goals (congr 1; exact ht1 (by omega))
 ·apply X.skip
  apply X.sr
  iterate 2 refine Ex.pu ?_
  apply Ex.nil
  refine X.ret ?_
  refine RetQ.ret (.one (.tmp rfl (LeV.eq ?_)))
  all_goals (congr 1; exact ht2 (by omega))
theorem C_tactuskit_Mens (n : Int) (hn : -9223372036854775808 <= n /\ n <= 9223372036854775807) : Fn Tryz.prog 24 [iv n] (mnA (mMk n)) := by
 unfold mMk
 refine Fn.go Tryz.func24 Tryz.ntmps24 (fun g w d => ?_)
 apply X.sr
 refine Ex.al ?_
 apply Ex.ns
 refine Ex.pu ?_
 refine Ex.ca (C_tactuskit_Mod n 16 hn (by omega)) ?_
 refine Ex.pu ?_
 apply Ex.ns
 iterate 15 refine Ex.pu ?_
 refine Ex.mo ?_
 apply Ex.nil
 refine X.ret ?_
 refine RetQ.ret (.one (.cellA rfl rfl rfl rfl ty23 (LeV.eq ?_)))
 all_goals (first | rfl | (simp_all; done))
theorem C_tactuskit_Parts (m : Mn) (v : Int) : Fn Tryz.prog 139 [mnA m, iv v] (iv (m.p v)) := by
 refine Fn.go Tryz.func139 Tryz.ntmps139 (fun g w d => ?_)
 apply X.sr
 refine Ex.ba ?_
 refine Ex.pu ?_
 apply Ex.nil
 apply X.seq
 apply X.sr
 refine Ex.pu ?_
 apply Ex.nil
 apply X.block
 apply X.sr
 iterate 2 refine Ex.pu ?_
 apply Ex.nil
 refine X.cd rfl (fun hc1 => ?_) (fun hc1 => ?_)
 ·apply X.sr
  iterate 3 refine Ex.pu ?_
  apply Ex.nil
  refine X.ret ?_
  refine RetQ.ret (.one (.tmp rfl (LeV.eq ?_)))
  all_goals (congr 1; unfold Mn.p; simp [*])
 apply X.sr
 iterate 2 refine Ex.pu ?_
 apply Ex.nil
 refine X.cd rfl (fun hc2 => ?_) (fun hc2 => ?_)
 ·apply X.sr
  iterate 3 refine Ex.pu ?_
  apply Ex.nil
  refine X.ret ?_
  refine RetQ.ret (.one (.tmp rfl (LeV.eq ?_)))
  all_goals (congr 1; unfold Mn.p; simp [*])
 apply X.sr
 iterate 2 refine Ex.pu ?_
 apply Ex.nil
 refine X.cd rfl (fun hc3 => ?_) (fun hc3 => ?_)
 ·apply X.sr
  iterate 3 refine Ex.pu ?_
  apply Ex.nil
  refine X.ret ?_
  refine RetQ.ret (.one (.tmp rfl (LeV.eq ?_)))
  all_goals (congr 1; unfold Mn.p; simp [*])
 apply X.sr
 iterate 2 refine Ex.pu ?_
 apply Ex.nil
 refine X.cd rfl (fun hc4 => ?_) (fun hc4 => ?_)
 ·apply X.sr
  iterate 3 refine Ex.pu ?_
  apply Ex.nil
  refine X.ret ?_
  refine RetQ.ret (.one (.tmp rfl (LeV.eq ?_)))
  all_goals (congr 1; unfold Mn.p; simp [*])
 apply X.skip
 apply X.sr
 refine Ex.pu ?_
 apply Ex.nil
 refine X.ret ?_
 refine RetQ.ret (.one (.tmp rfl (LeV.eq ?_)))
 all_goals (congr 1; unfold Mn.p; simp [*])
theorem C_tactuskit_T (n q : Int) (hn : 0 <= n /\ n <= 4611686018427387904) (hd : 1 <= q /\ q <= 4611686018427387904) : Fn Tryz.prog 116 [iv n, iv q] (tmA ⟨n / gI n q, q / gI n q⟩) := by
 refine Fn.go Tryz.func116 Tryz.ntmps116 (fun g w d => ?_)
 apply X.sr
 refine Ex.al ?_
 apply Ex.ns
 iterate 4 refine Ex.pu ?_
 apply Ex.nil
 apply X.seq
 apply X.block
 refine X.lp (ι := Int × Int) (fun (p : Int × Int) => [(0, iv n), (1, iv q), (4, .ptr 4 0 0 0), (5, iv p.1), (6, iv p.2)]) (fun (p : Int × Int) => [(4, .box [iv 0, iv 0] 60)]) (fun (p : Int × Int) => 0 <= p.1 /\ 0 <= p.2 /\ gI p.1 p.2 = gI n q /\ (0 < p.1 \/ 0 < p.2)) (fun (p : Int × Int) => p.2.toNat) (n, q) (fun p hk => ?_) (hJ := by
  exact ⟨by dsimp only; omega, by dsimp only; omega, rfl, by dsimp only; omega⟩)
 obtain ⟨a, b⟩ := p
 obtain ⟨k1, k2, k3, k4⟩ := hk
 dsimp only at *
 apply X.seq
 apply X.sr
 iterate 2 refine Ex.pu ?_
 apply Ex.nil
 refine X.cd rfl (fun hc1 => ?_) (fun hc1 => ?_)
 ·apply X.skip
  apply X.block
  apply X.sr
  iterate 4 refine Ex.pu ?_
  apply Ex.ns
  iterate 2 refine Ex.pu ?_
  apply Ex.nil
  apply X.region
  iterate 2 refine Ex.pu ?_
  apply Ex.nil
  refine X.bk ((b, a % b)) (hJ := by
   exact ⟨by dsimp only; omega, by dsimp only; exact Int.emod_nonneg _ (by omega), by dsimp only; rw [gI_step (by omega) (by omega)]; exact k3, by dsimp only; omega⟩) (hm := by dsimp only; have := Int.emod_lt_of_pos a (show 0 < b by omega); omega)
 ·have hb0 : b = 0 := by omega
  subst hb0
  rw [gI_zero k1] at k3
  subst k3
  have hgp := gI_pos (n := n) (d := q) (by omega)
  apply X.exit
  apply X.seq
  apply X.sr
  iterate 2 refine Ex.pu ?_
  apply Ex.nil
  refine X.cd rfl (fun hc2 => ?_) (fun hc2 => ?_)
  ·omega
  apply X.skip
  apply X.seq
  refine X.dw [20,21,22,23,24,25] [0,0,3,0,0,24,63,127] mo ?_
  iterate 6 refine ChM.pu ?_
  refine ChM.tl ?_
  refine Ex.pu ?_
  refine Ex.mo ?_
  apply Ex.nil
  refine X.ret ?_
  refine RetQ.ret (.one (.cellA rfl rfl rfl rfl ty60 (LeV.eq ?_)))
  all_goals (rfl)
end Go.Rse
