/-
  Walks: the ways' durations in rows of the caller's own; sorted, each once.
-/
import Derived.Test.YteecbmgddacioaaGreatSpell3
import Derived.Test.YteecbmgddacioaaGreatRse36
namespace Go.Rse
open Go Go.Proofs
set_option linter.unusedVariables false
set_option linter.unusedSimpArgs false
attribute [local irreducible] Pur StepA StepM Ex X ExG Fn Imp LeV LeB FnO It YStep
attribute [local irreducible] fullT durT mulV mulE subV subE
/-- The list, of equal neighbours one. -/
def cpK (l : List Tm) : Nat → List Tm
  | 0 => []
  | k + 1 => match l[k]? with
    | none => cpK l k
    | some v => if k ≠ 0 ∧ l[k - 1]? = some v then cpK l k else cpK l k ++ [v]
def cpT (l : List Tm) : List Tm := cpK l l.length
theorem cpK_len (l : List Tm) : ∀ k, (cpK l k).length ≤ k
  | 0 => Nat.le_refl _
  | k + 1 => by
    have := cpK_len l k
    unfold cpK
    split
    · omega
    · split
      · omega
      · simp; omega
theorem cpK_eq {l : List Tm} {k : Nat} {v u : Tm} (hk : k ≠ 0) (h : l[k]? = some v) (h2 : l[k - 1]? = some u) (e : v = u) : cpK l (k + 1) = cpK l k := by
  conv => lhs; unfold cpK
  rw [h]; subst e; exact if_pos ⟨hk, h2⟩
theorem cpK_ne {l : List Tm} {k : Nat} {v u : Tm} (h : l[k]? = some v) (h2 : l[k - 1]? = some u) (e : ¬ v = u) : cpK l (k + 1) = cpK l k ++ [v] := by
  conv => lhs; unfold cpK
  rw [h]; exact if_neg (fun ⟨_, h3⟩ => by rw [h2] at h3; injection h3 with h3; exact e h3.symm)
theorem cpK_0 {l : List Tm} {v : Tm} (h : l[0]? = some v) : cpK l 1 = [v] := by
  unfold cpK; rw [h]; rfl
theorem cpK_take {l : List Tm} : ∀ (k : Nat), (∀ i v u, i ≠ 0 → i < k → l[i]? = some v → l[i - 1]? = some u → ¬ v = u) → cpK l k = l.take k
  | 0, _ => by simp [cpK]
  | k + 1, h => by
    have ih := cpK_take k (fun i v u h0 h1 => h i v u h0 (by omega))
    rw [List.take_add_one]
    unfold cpK
    cases hv : l[k]? with
    | none => simp [ih]
    | some v =>
      by_cases hk : k = 0
      · subst hk; simp [cpK]
      · obtain ⟨u, hu⟩ : ∃ u, l[k - 1]? = some u := ⟨_, List.getElem?_eq_getElem (by have := (List.getElem?_eq_some_iff.1 hv).1; omega)⟩
        simp only
        rw [if_neg (fun ⟨_, h3⟩ => by rw [hu] at h3; injection h3 with h3; exact h k v u hk (by omega) hv hu h3.symm), ih]; rfl
attribute [local irreducible] cpK
theorem C_spell_timesO (t : Tm) (n q : Int) : FnO Tryz.prog 44 [tmA t, iv n, iv q] [] [] (.own 18) [(18, .row tmE ([mulV t ⟨n, q⟩]) 51 2)] := by
  refine FnO.intro (ts := [(0, tmA t), (1, iv n), (2, iv q)]) (rv := [.tmp 6]) (n := 19) (cs := []) (by kernel_rfl) Tryz.func44 rfl Tryz.ntmps44 rfl rfl (by simp) rfl rfl rfl rfl (fun g w d vh => ?_)
  refine X.seq ?_
  refine X.region ?_
  refine Ex.ba ?_
  refine Ex.pu ?_
  refine Ex.nil ?_
  refine X.seq ?_
  refine X.region ?_
  iterate 4 refine Ex.pu ?_
  refine Ex.ca (C_span_Mul t ⟨n, q⟩) ?_
  iterate 3 refine Ex.pu ?_
  refine Ex.al ?_
  refine Ex.mo ?_
  refine Ex.pu ?_
  refine Ex.nil ?_
  refine X.seq ?_
  refine X.region ?_
  refine Ex.pu ?_
  refine Ex.bs tmE [mulV t ⟨n, q⟩] ?_
  refine Ex.pu ?_
  refine Ex.nil ?_
  refine X.ret ?_
  refine RetQO.mk (ts := [(6, .own 18)]) (.inr rfl) (Imp.au) (.one (.tmp rfl (LeV.eq rfl)))
theorem C_spell_lostO (m : Mn) (v : Int) (hm : ckM m = 0) (h1 : 1 ≤ v) (h8 : v ≤ 8) : FnO Tryz.prog 45 [mnA m, iv v] [] [] (.own 21) [(21, .row tmE (wdL m v 3) 51 2)] := by
  have hp3 : 3 ^ (5 - v).toNat ≤ 3 ^ 4 := Nat.pow_le_pow_right (by decide) (by omega)
  have hp4 : 3 ^ 4 = 81 := rfl
  have hW : [] ++ lsL m v (5 - v).toNat v (fullT m v) false = wdL m v 3 := rfl
  refine FnO.intro (ts := [(0, mnA m), (1, iv v)]) (rv := [.tmp 4]) (n := 15) (cs := []) (by kernel_rfl) Tryz.func45 rfl Tryz.ntmps45 rfl rfl (by simp) rfl rfl rfl rfl (fun g w d vh => ?_)
  refine X.seq ?_
  refine X.region ?_
  refine Ex.ba ?_
  refine Ex.bx ?_
  refine Ex.pu ?_
  refine Ex.nil ?_
  refine X.seq ?_
  refine X.region ?_
  refine Ex.al ?_
  refine Ex.nil ?_
  refine X.seq ?_
  refine X.region ?_
  refine Ex.al ?_
  refine Ex.nil ?_
  refine X.seq ?_
  refine X.region ?_
  refine Ex.pu ?_
  refine Ex.mo ?_
  refine Ex.nil ?_
  refine X.seq ?_
  refine X.imp (Imp.mkrowB tmE 51 2 5 20 26 rfl rfl) ?_
  refine X.dw [8,9,10,11,12] [0,0,0,0,12,31] mo ?_
  iterate 4 refine ChM.pu ?_
  refine ChM.ca (C_spell_full m v hm h1 h8) ?_
  refine ChM.tl ?_
  refine Ex.co [(2000000, 5), (2000001, 6), (2000002, 2), (2000003, 3), (2000010, 20), (2000011, 21)] (C_spell_lost_1 m hm v (5 - v).toNat v (fullT m v) false [] rfl h1 h8 (by simp; omega)) ?_
  refine Ex.nil ?_
  refine X.seq ?_
  refine X.region ?_
  iterate 2 refine Ex.pu ?_
  refine Ex.nil ?_
  refine X.ret ?_
  refine RetQO.mk (ts := [(4, .own 21)]) (.inr rfl) (Imp.au) (.one (.tmp rfl (LeV.eq rfl)))
theorem C_spell_ways_1O (m : Mn) (v : Int) (hm : ckM m = 0) (h1 : 1 ≤ v) (h8 : v ≤ 8) : FnO Tryz.prog 41 [mnA m, iv v] [] [] (.own 8) [(8, .row tmE (wdL m v 1) 51 2)] := by
  have hW : [fullT m v] = wdL m v 1 := rfl
  refine FnO.intro (ts := [(0, mnA m), (1, iv v)]) (rv := [.tmp 4]) (n := 9) (cs := []) (by kernel_rfl) Tryz.func41 rfl Tryz.ntmps41 rfl rfl (by simp) rfl rfl rfl rfl (fun g w d vh => ?_)
  refine X.seq ?_
  refine X.region ?_
  refine Ex.ba ?_
  refine Ex.pu ?_
  refine Ex.nil ?_
  refine X.seq ?_
  refine X.region ?_
  iterate 2 refine Ex.pu ?_
  refine Ex.ca (C_spell_full m v hm h1 h8) ?_
  refine Ex.bs tmE [fullT m v] ?_
  refine Ex.pu ?_
  refine Ex.nil ?_
  refine X.ret ?_
  refine RetQO.mk (ts := [(4, .own 8)]) (.inr rfl) (Imp.au) (.one (.tmp rfl (LeV.eq rfl)))
theorem C_spell_ways_2O (m : Mn) (v : Int) (hm : ckM m = 0) (h1 : 1 ≤ v) (h8 : v ≤ 8) : FnO Tryz.prog 42 [mnA m, iv v] [] [] (.own 11) [(11, .row tmE (wdL m v 2) 51 2)] := by
  refine FnO.intro (ts := [(0, mnA m), (1, iv v)]) (rv := [.tmp 4]) (n := 12) (cs := []) (by kernel_rfl) Tryz.func42 rfl Tryz.ntmps42 rfl rfl (by simp) rfl rfl rfl rfl (fun g w d vh => ?_)
  refine X.seq ?_
  refine X.region ?_
  refine Ex.ba ?_
  refine Ex.pu ?_
  refine Ex.nil ?_
  refine X.seq ?_
  refine X.seq ?_
  refine X.region ?_
  iterate 2 refine Ex.pu ?_
  refine Ex.ca (C_spell_perfect m v hm h1 h8) ?_
  refine Ex.nil ?_
  refine X.cd rfl (fun hc1 => ?_) (fun hc1 => ?_)
  · have e : wdL m v 2 = (if m.p v = 3 then [] else [mulV (fullT m v) ⟨3, 2⟩]) := rfl
    have hW : [] = wdL m v 2 := by rw [e, if_pos hc1]
    refine X.seq ?_
    refine X.region ?_
    refine Ex.pu ?_
    refine Ex.nil ?_
    refine X.ret ?_
    refine RetQO.imp (Imp.mkrow tmE 51 2 4 11 rfl rfl) ?_
    refine RetQO.mk (ts := [(4, .own 11)]) (.inr rfl) (Imp.au) (.one (.tmp rfl (LeV.eq rfl)))
  have e : wdL m v 2 = (if m.p v = 3 then [] else [mulV (fullT m v) ⟨3, 2⟩]) := rfl
  have hW : [mulV (fullT m v) ⟨3, 2⟩] = wdL m v 2 := by rw [e, if_neg hc1]
  refine X.skip ?_
  refine X.seq ?_
  refine X.region ?_
  iterate 2 refine Ex.pu ?_
  refine Ex.ca (C_spell_full m v hm h1 h8) ?_
  refine Ex.callO' [(18, 11)] (C_spell_timesO (fullT m v) 3 2) rfl rfl rfl (LeL.refl _) rfl rfl trivial rfl rfl rfl rfl ?_
  refine Ex.pu ?_
  refine Ex.nil ?_
  refine X.ret ?_
  refine RetQO.mk (ts := [(4, .own 11)]) (.inr rfl) (Imp.au) (.one (.tmp rfl (LeV.eq rfl)))
theorem C_spell_ways_3O (m : Mn) (v : Int) (hm : ckM m = 0) (h1 : 1 ≤ v) (h8 : v ≤ 8) : FnO Tryz.prog 46 [mnA m, iv v] [] [] (.own 17) [(17, .row tmE (wdL m v 4) 51 2)] := by
  refine FnO.intro (ts := [(0, mnA m), (1, iv v)]) (rv := [.tmp 4]) (n := 18) (cs := []) (by kernel_rfl) Tryz.func46 rfl Tryz.ntmps46 rfl rfl (by simp) rfl rfl rfl rfl (fun g w d vh => ?_)
  refine X.seq ?_
  refine X.region ?_
  refine Ex.ba ?_
  refine Ex.pu ?_
  refine Ex.nil ?_
  refine X.seq ?_
  refine X.seq ?_
  refine X.region ?_
  iterate 2 refine Ex.pu ?_
  refine ExF.at 2 ?_
  refine ExF.pu ?_
  iterate 3 refine ExF.gi ?_
  refine ExF.cp (p := ¬ v = 1) (fun hgd => C_spell_perfect m (v - 1) hm (by omega) (by omega)) ?_
  refine ExF.gi ?_
  refine ExF.done ?_
  refine Ex.pu ?_
  refine Ex.nil ?_
  refine X.cd rfl (fun hc1 => ?_) (fun hc1 => ?_)
  · have e : wdL m v 4 = (if v = 1 ∨ ¬ m.p (v - 1) = 3 then [] else [mulV (fullT m v) ⟨2, 1⟩]) := rfl
    have hW : [] = wdL m v 4 := by rw [e, if_pos hc1]
    refine X.seq ?_
    refine X.region ?_
    refine Ex.pu ?_
    refine Ex.nil ?_
    refine X.ret ?_
    refine RetQO.imp (Imp.mkrow tmE 51 2 4 17 rfl rfl) ?_
    refine RetQO.mk (ts := [(4, .own 17)]) (.inr rfl) (Imp.au) (.one (.tmp rfl (LeV.eq rfl)))
  have e : wdL m v 4 = (if v = 1 ∨ ¬ m.p (v - 1) = 3 then [] else [mulV (fullT m v) ⟨2, 1⟩]) := rfl
  have hW : [mulV (fullT m v) ⟨2, 1⟩] = wdL m v 4 := by rw [e, if_neg (fun h => by rcases h with h | h; exact hc1.1 h; exact h hc1.2)]
  refine X.skip ?_
  refine X.seq ?_
  refine X.region ?_
  iterate 2 refine Ex.pu ?_
  refine Ex.ca (C_spell_full m v hm h1 h8) ?_
  refine Ex.callO' [(18, 17)] (C_spell_timesO (fullT m v) 2 1) rfl rfl rfl (LeL.refl _) rfl rfl trivial rfl rfl rfl rfl ?_
  refine Ex.pu ?_
  refine Ex.nil ?_
  refine X.ret ?_
  refine RetQO.mk (ts := [(4, .own 17)]) (.inr rfl) (Imp.au) (.one (.tmp rfl (LeV.eq rfl)))
theorem C_spell_ways_4O (m : Mn) (v : Int) (hm : ckM m = 0) (h1 : 1 ≤ v) (h8 : v ≤ 8) : FnO Tryz.prog 47 [mnA m, iv v] [] [] (.own 8) [(8, .row tmE (wdL m v 5) 51 2)] := by
  have hW : [durT m v] = wdL m v 5 := rfl
  refine FnO.intro (ts := [(0, mnA m), (1, iv v)]) (rv := [.tmp 4]) (n := 9) (cs := []) (by kernel_rfl) Tryz.func47 rfl Tryz.ntmps47 rfl rfl (by simp) rfl rfl rfl rfl (fun g w d vh => ?_)
  refine X.seq ?_
  refine X.region ?_
  refine Ex.ba ?_
  refine Ex.pu ?_
  refine Ex.nil ?_
  refine X.seq ?_
  refine X.region ?_
  iterate 2 refine Ex.pu ?_
  refine Ex.ca (C_spell_tinted m v hm h1 h8) ?_
  refine Ex.bs tmE [durT m v] ?_
  refine Ex.pu ?_
  refine Ex.nil ?_
  refine X.ret ?_
  refine RetQO.mk (ts := [(4, .own 8)]) (.inr rfl) (Imp.au) (.one (.tmp rfl (LeV.eq rfl)))
theorem C_spell_ways_5O (m : Mn) (v : Int) (hm : ckM m = 0) (h1 : 1 ≤ v) (h8 : v ≤ 8) : FnO Tryz.prog 49 [mnA m, iv v] [] [] (.own 8) [(8, .row tmE (wdL m v 6) 51 2)] := by
  have hW : [mulV (durT m v) ⟨3, 2⟩] = wdL m v 6 := rfl
  refine FnO.intro (ts := [(0, mnA m), (1, iv v)]) (rv := [.tmp 4]) (n := 9) (cs := []) (by kernel_rfl) Tryz.func49 rfl Tryz.ntmps49 rfl rfl (by simp) rfl rfl rfl rfl (fun g w d vh => ?_)
  refine X.seq ?_
  refine X.region ?_
  refine Ex.ba ?_
  refine Ex.pu ?_
  refine Ex.nil ?_
  refine X.seq ?_
  refine X.region ?_
  iterate 2 refine Ex.pu ?_
  refine Ex.ca (C_spell_tinted m v hm h1 h8) ?_
  refine Ex.callO' [(18, 8)] (C_spell_timesO (durT m v) 3 2) rfl rfl rfl (LeL.refl _) rfl rfl trivial rfl rfl rfl rfl ?_
  refine Ex.pu ?_
  refine Ex.nil ?_
  refine X.ret ?_
  refine RetQO.mk (ts := [(4, .own 8)]) (.inr rfl) (Imp.au) (.one (.tmp rfl (LeV.eq rfl)))
theorem C_spell_ways_6O (m : Mn) (v : Int) (hm : ckM m = 0) (h1 : 1 ≤ v) (h8 : v ≤ 8) : FnO Tryz.prog 50 [mnA m, iv v] [] [] (.own 14) [(14, .row tmE (wdL m v 7) 51 2)] := by
  refine FnO.intro (ts := [(0, mnA m), (1, iv v)]) (rv := [.tmp 4]) (n := 25) (cs := []) (by kernel_rfl) Tryz.func50 rfl Tryz.ntmps50 rfl rfl (by simp) rfl rfl rfl rfl (fun g w d vh => ?_)
  refine X.seq ?_
  refine X.region ?_
  refine Ex.ba ?_
  refine Ex.pu ?_
  refine Ex.nil ?_
  refine X.seq ?_
  refine X.block ?_
  refine X.seq ?_
  refine X.region ?_
  iterate 3 refine Ex.pu ?_
  refine ExF.at 3 ?_
  refine ExF.pu ?_
  iterate 2 refine ExF.gi ?_
  refine ExF.done ?_
  iterate 2 refine Ex.pu ?_
  refine Ex.nil ?_
  refine X.cd rfl (fun hc1 => ?_) (fun hc1 => ?_)
  · have e : wdL m v 7 = (if m.Pro = 2 ∧ v = 4 then [⟨3, 2⟩] else if m.Pro = 2 ∧ v = 5 then [⟨1, 2⟩] else []) := rfl
    have hW : [⟨3, 2⟩] = wdL m v 7 := by rw [e, if_pos hc1]
    refine X.seq ?_
    refine X.region ?_
    refine Ex.pu ?_
    refine Ex.bs tmE [⟨3, 2⟩] ?_
    refine Ex.pu ?_
    refine Ex.nil ?_
    refine X.ret ?_
    refine RetQO.mk (ts := [(4, .own 14)]) (.inr rfl) (Imp.au) (.one (.tmp rfl (LeV.eq rfl)))
  refine X.seq ?_
  refine X.region ?_
  iterate 3 refine Ex.pu ?_
  refine ExF.at 3 ?_
  refine ExF.pu ?_
  iterate 2 refine ExF.gi ?_
  refine ExF.done ?_
  iterate 2 refine Ex.pu ?_
  refine Ex.nil ?_
  refine X.cd rfl (fun hc2 => ?_) (fun hc2 => ?_)
  · have e : wdL m v 7 = (if m.Pro = 2 ∧ v = 4 then [⟨3, 2⟩] else if m.Pro = 2 ∧ v = 5 then [⟨1, 2⟩] else []) := rfl
    have hW : [⟨1, 2⟩] = wdL m v 7 := by rw [e, if_neg (by omega), if_pos hc2]
    refine X.seq ?_
    refine X.region ?_
    refine Ex.pu ?_
    refine Ex.bs tmE [⟨1, 2⟩] ?_
    refine Ex.pu ?_
    refine Ex.nil ?_
    refine X.ret ?_
    refine RetQO.imp (Imp.mv 24 14 rfl rfl) ?_
    refine RetQO.mk (ts := [(4, .own 14)]) (.inr rfl) (Imp.au) (.one (.tmp rfl (LeV.eq rfl)))
  have e : wdL m v 7 = (if m.Pro = 2 ∧ v = 4 then [⟨3, 2⟩] else if m.Pro = 2 ∧ v = 5 then [⟨1, 2⟩] else []) := rfl
  have hW : [] = wdL m v 7 := by rw [e, if_neg (by omega), if_neg (by omega)]
  refine X.skip ?_
  refine X.seq ?_
  refine X.region ?_
  refine Ex.pu ?_
  refine Ex.nil ?_
  refine X.ret ?_
  refine RetQO.imp (Imp.mkrow tmE 51 2 4 14 rfl rfl) ?_
  refine RetQO.mk (ts := [(4, .own 14)]) (.inr rfl) (Imp.au) (.one (.tmp rfl (LeV.eq rfl)))
theorem C_spell_ways_7O (m : Mn) (v : Int) (hm : ckM m = 0) (h1 : 1 ≤ v) (h8 : v ≤ 8) : FnO Tryz.prog 51 [mnA m, iv v] [] [] (.own 8) [(8, .row tmE (wdL m v 8) 51 2)] := by
  have hW : [fullT m v] = wdL m v 8 := rfl
  refine FnO.intro (ts := [(0, mnA m), (1, iv v)]) (rv := [.tmp 4]) (n := 9) (cs := []) (by kernel_rfl) Tryz.func51 rfl Tryz.ntmps51 rfl rfl (by simp) rfl rfl rfl rfl (fun g w d vh => ?_)
  refine X.seq ?_
  refine X.region ?_
  refine Ex.ba ?_
  refine Ex.pu ?_
  refine Ex.nil ?_
  refine X.seq ?_
  refine X.region ?_
  iterate 2 refine Ex.pu ?_
  refine Ex.ca (C_spell_full m v hm h1 h8) ?_
  refine Ex.bs tmE [fullT m v] ?_
  refine Ex.pu ?_
  refine Ex.nil ?_
  refine X.ret ?_
  refine RetQO.mk (ts := [(4, .own 8)]) (.inr rfl) (Imp.au) (.one (.tmp rfl (LeV.eq rfl)))
theorem C_spell_order (a b : Tm) : Fn Tryz.prog 27 [tmA a, tmA b] (iv (cmpV a b)) := by
  refine Fn.go Tryz.func27 Tryz.ntmps27 (fun g w d => ?_)
  refine X.seq ?_
  refine X.region ?_
  refine Ex.ba ?_
  refine Ex.ba ?_
  refine Ex.pu ?_
  refine Ex.nil ?_
  refine X.seq ?_
  refine X.region ?_
  iterate 2 refine Ex.pu ?_
  refine Ex.ca (C_span_Compare a b) ?_
  iterate 5 refine Ex.pu ?_
  refine Ex.nil ?_
  refine X.seq ?_
  refine X.region ?_
  iterate 2 refine Ex.pu ?_
  refine Ex.nil ?_
  refine X.ret ?_
  refine RetQ.ret (.one (.tmp rfl (LeV.eq ?_)))
  all_goals (first | rfl | (simp_all; done))
theorem C_spell_sorted_1 (a b : Tm) : Fn Tryz.prog 29 [tmA a, tmA b] (.bool (decide (a = b))) := by
  refine Fn.go Tryz.func29 Tryz.ntmps29 (fun g w d => ?_)
  refine X.seq ?_
  refine X.region ?_
  refine Ex.ba ?_
  refine Ex.ba ?_
  refine Ex.pu ?_
  refine Ex.nil ?_
  refine X.seq ?_
  refine X.region ?_
  iterate 4 refine Ex.pu ?_
  refine Ex.nil ?_
  refine X.ret ?_
  refine RetQ.ret (.one (.tmp rfl (LeV.eq ?_)))
  all_goals (first | rfl | (simp_all; done))
set_option maxHeartbeats 4000000 in
theorem C_slices_CompactFunc_api_Time_api_Time (l : List Tm) (hl : l.length ≤ 4000000000) : FnO Tryz.prog 28 [.own 2000000, .fn 29 []] [(2000000, .row tmE (l) 51 2)] [] (.own 2000000) [(2000000, .row tmE (cpT l) 51 2)] := by
  refine FnO.intro (ts := [(0, .own 2000000), (1, .fn 29 [])]) (rv := [.tmp 4]) (n := 66) (cs := []) (by kernel_rfl) Tryz.func28 rfl Tryz.ntmps28 rfl rfl (by simp) rfl rfl rfl rfl (fun g w d vs => ?_)
  refine X.seq ?_
  refine X.region ?_
  refine Ex.pu ?_
  refine Ex.nil ?_
  refine X.seq ?_
  refine X.seq ?_
  refine X.region ?_
  iterate 3 refine Ex.pu ?_
  refine Ex.nil ?_
  refine X.cd rfl (fun hc1 => ?_) (fun hc1 => ?_)
  · have hrow1 : l = cpT l := by
      unfold cpT
      rw [cpK_take l.length (fun i v u h0 h1 => by omega), List.take_length]
    refine X.seq ?_
    refine X.region ?_
    iterate 2 refine Ex.pu ?_
    refine Ex.nil ?_
    refine X.ret ?_
    refine RetQO.mk (ts := [(4, .own 2000000)]) (.inr rfl) (Imp.au) (.one (.tmp rfl (LeV.eq rfl)))
  refine X.skip ?_
  refine X.seq ?_
  refine X.seq ?_
  refine X.region ?_
  refine Ex.pu ?_
  refine Ex.nil ?_
  refine X.block ?_
  refine X.lp (ι := Nat) (fun (j : Nat) => [(0, .own 2000000), (1, .fn 29 []), (5, iv (1 + (j : Int)))]) (fun (j : Nat) => [(1000001, .hold vs []), (2000000, .row tmE l 51 2)]) (fun (j : Nat) => 1 + j ≤ l.length ∧ ∀ i v u, i ≠ 0 → i < j + 1 → l[i]? = some v → l[i - 1]? = some u → ¬ v = u) (fun (j : Nat) => l.length - j) 0 (fun j hk => ?_) (hJ := by
    exact ⟨by omega, fun i v u h0 h1 => by omega⟩)
  obtain ⟨hk1, hk2⟩ := hk
  refine X.seq ?_
  refine X.seq ?_
  refine X.region ?_
  iterate 4 refine Ex.pu ?_
  refine Ex.nil ?_
  refine X.cd rfl (fun hc2 => ?_) (fun hc2 => ?_)
  · obtain ⟨v, hv0⟩ : ∃ v, l[j + 1]? = some v := ⟨_, List.getElem?_eq_getElem (by omega)⟩
    obtain ⟨u, hu0⟩ : ∃ u, l[j]? = some u := ⟨_, List.getElem?_eq_getElem (by omega)⟩
    have hv : l[(1 + (j : Int)).toNat]? = some v := by rw [show (1 + (j : Int)).toNat = j + 1 by omega]; exact hv0
    have hu : l[(1 + (j : Int) - 1).toNat]? = some u := by rw [show (1 + (j : Int) - 1).toNat = j by omega]; exact hu0
    refine X.skip ?_
    refine X.seq ?_
    refine X.block ?_
    refine X.seq ?_
    refine X.dw [18,19,20,21,22,23,24,25,26,27,28] [0,0,0,6,14,0,0,64,224,480,1023] mo ?_
    iterate 4 refine ChM.pu ?_
    refine ChM.step rfl rfl rfl (Pur.stepA (P_load_row_all rfl rfl (by assumption) rfl rfl ty51)) rfl ?_
    iterate 4 refine ChM.pu ?_
    refine ChM.step rfl rfl rfl (Pur.stepA (P_load_row_all rfl rfl (by assumption) rfl rfl ty51)) rfl ?_
    refine ChM.ca (C_spell_sorted_1 v u) ?_
    refine ChM.tl ?_
    refine Ex.nil ?_
    refine X.cd rfl (fun hc3 => ?_) (fun hc3 => ?_)
    · have hd1 : cpK l (j + 1) = l.take (j + 1) := cpK_take _ hk2
      have hd2 : cpK l (j + 2 + 0) = l.take (j + 1) := (cpK_eq (by omega) hv0 hu0 hc3).trans hd1
      have hl2 : (cpK l (j + 2 + 0)).length = j + 1 := by rw [hd2, List.length_take]; omega
      have hrow0 : l = cpK l (j + 2 + 0) ++ l.drop (cpK l (j + 2 + 0)).length := by rw [hl2, hd2, List.take_append_drop]
      refine X.seq ?_
      refine X.region ?_
      iterate 2 refine Ex.pu ?_
      refine Ex.pur (P_slice_tail rfl rfl rfl sl26 ty51 (by omega) (by omega)) rfl ?_
      refine Ex.pu ?_
      refine Ex.nil ?_
      refine X.seq ?_
      refine X.seq ?_
      refine X.region ?_
      refine Ex.pu ?_
      refine Ex.nil ?_
      refine X.block ?_
      refine X.lp (ι := Nat) (fun (i : Nat) => [(0, .own 2000000), (1, .fn 29 []), (5, iv ((cpK l (j + 2 + i)).length : Int)), (6, .sub 2000000 2 (1 + (j : Int)).toNat (l.length - (1 + (j : Int)).toNat)), (7, iv (1 + (i : Int)))]) (fun (i : Nat) => [(1000001, .hold vs []), (2000000, .row tmE (cpK l (j + 2 + i) ++ l.drop (cpK l (j + 2 + i)).length) 51 2)]) (fun (i : Nat) => j + 2 + i ≤ l.length ∧ (cpK l (j + 2 + i)).length < j + 2 + i) (fun (i : Nat) => l.length - i) 0 (fun i hk => ?_) (hJ := by
        exact ⟨by omega, by omega⟩) (h0 := by
        refine Imp.of ⟨⟨_, rfl, LeV.refl _⟩, ⟨_, rfl, LeV.refl _⟩, ⟨_, rfl, LeV.eq (congrArg (AV.int .i64) (by omega))⟩, ⟨_, rfl, LeV.refl _⟩, ⟨_, rfl, LeV.refl _⟩, trivial⟩ ⟨⟨_, rfl, LeB.refl _⟩, ⟨_, rfl, LeB.row hrow0⟩, trivial⟩)
      obtain ⟨hi1, hi2⟩ := hk
      have hrl : (cpK l (j + 2 + i) ++ l.drop (cpK l (j + 2 + i)).length).length = l.length := by simp; omega
      refine X.seq ?_
      refine X.seq ?_
      refine X.region ?_
      iterate 2 refine Ex.pu ?_
      refine Ex.pur (P_len_sub rfl sl26) rfl ?_
      refine Ex.pu ?_
      refine Ex.nil ?_
      refine X.cd rfl (fun hc4 => ?_) (fun hc4 => ?_)
      · obtain ⟨v2, hv20⟩ : ∃ v2, l[j + 2 + i]? = some v2 := ⟨_, List.getElem?_eq_getElem (by omega)⟩
        obtain ⟨u2, hu20⟩ : ∃ u2, l[j + 2 + i - 1]? = some u2 := ⟨_, List.getElem?_eq_getElem (by omega)⟩
        have hv2 : (cpK l (j + 2 + i) ++ l.drop (cpK l (j + 2 + i)).length)[(1 + (j : Int)).toNat + (1 + (i : Int)).toNat]? = some v2 := by
          rw [List.getElem?_append_right (by omega), List.getElem?_drop, show (cpK l (j + 2 + i)).length + ((1 + (j : Int)).toNat + (1 + (i : Int)).toNat - (cpK l (j + 2 + i)).length) = j + 2 + i by omega]; exact hv20
        have hu2 : (cpK l (j + 2 + i) ++ l.drop (cpK l (j + 2 + i)).length)[(1 + (j : Int)).toNat + (1 + (i : Int) - 1).toNat]? = some u2 := by
          rw [List.getElem?_append_right (by omega), List.getElem?_drop, show (cpK l (j + 2 + i)).length + ((1 + (j : Int)).toNat + (1 + (i : Int) - 1).toNat - (cpK l (j + 2 + i)).length) = j + 2 + i - 1 by omega]; exact hu20
        refine X.skip ?_
        refine X.seq ?_
        refine X.block ?_
        refine X.seq ?_
        refine X.dw [38,39,40,41,42,43,44,45,46,47,48,49] [0,0,0,6,14,0,0,64,224,480,1023,2047] mo ?_
        iterate 3 refine ChM.pu ?_
        refine ChM.step rfl rfl rfl (Pur.stepA (P_index_sub rfl rfl sl26 ty51 (by omega) (by omega))) rfl ?_
        refine ChM.step rfl rfl rfl (Pur.stepA (P_load_row_all rfl rfl (by assumption) rfl rfl ty51)) rfl ?_
        iterate 3 refine ChM.pu ?_
        refine ChM.step rfl rfl rfl (Pur.stepA (P_index_sub rfl rfl sl26 ty51 (by omega) (by omega))) rfl ?_
        refine ChM.step rfl rfl rfl (Pur.stepA (P_load_row_all rfl rfl (by assumption) rfl rfl ty51)) rfl ?_
        refine ChM.ca (C_spell_sorted_1 v2 u2) ?_
        refine ChM.pu ?_
        refine ChM.tl ?_
        refine Ex.nil ?_
        refine X.cd rfl (fun hc5 => ?_) (fun hc5 => ?_)
        · have hdk : cpK l (j + 2 + (i + 1)) = cpK l (j + 2 + i) ++ [v2] := cpK_ne hv20 hu20 hc5
          have hdl : (cpK l (j + 2 + (i + 1))).length = (cpK l (j + 2 + i)).length + 1 := by rw [hdk]; simp
          have hrow2 : (cpK l (j + 2 + i) ++ l.drop (cpK l (j + 2 + i)).length).set (((cpK l (j + 2 + i)).length : Nat) : Int).toNat v2 = cpK l (j + 2 + (i + 1)) ++ l.drop (cpK l (j + 2 + (i + 1))).length := by
            rw [hdl, hdk, Int.toNat_natCast, List.set_append_right _ _ (Nat.le_refl _), Nat.sub_self]
            have h9 : (l.drop (cpK l (j + 2 + i)).length).set 0 v2 = v2 :: l.drop ((cpK l (j + 2 + i)).length + 1) := by rw [List.drop_eq_getElem_cons (show (cpK l (j + 2 + i)).length < l.length by omega)]; rfl
            rw [h9]; simp
          refine X.seq ?_
          refine X.region ?_
          iterate 4 refine Ex.pu ?_
          refine Ex.pur (P_index_sub rfl rfl sl26 ty51 (by omega) (by omega)) rfl ?_
          refine Ex.pur (P_load_row_all rfl rfl (by assumption) rfl rfl ty51) rfl ?_
          refine Ex.pu ?_
          refine Ex.stepM (M_store_row v2 rfl rfl (fun _ => rfl) (by decide) (by omega) rfl rfl rfl rfl rfl ty51) ?_
          refine Ex.nil ?_
          refine X.region ?_
          iterate 3 refine Ex.pu ?_
          refine Ex.nil ?_
          refine X.region ?_
          iterate 3 refine Ex.pu ?_
          refine Ex.nil ?_
          refine X.bk (i + 1) (hJ := by
            refine ⟨by omega, ?_⟩
            omega)
        · have hdk : cpK l (j + 2 + (i + 1)) = cpK l (j + 2 + i) := cpK_eq (k := j + 2 + i) (by omega) hv20 hu20 hc5
          have hdl : (cpK l (j + 2 + (i + 1))).length = (cpK l (j + 2 + i)).length := by rw [hdk]
          have hrow2 : cpK l (j + 2 + i) ++ l.drop (cpK l (j + 2 + i)).length = cpK l (j + 2 + (i + 1)) ++ l.drop (cpK l (j + 2 + (i + 1))).length := by rw [hdk]
          refine X.skip ?_
          refine X.region ?_
          iterate 3 refine Ex.pu ?_
          refine Ex.nil ?_
          refine X.bk (i + 1) (hJ := by
            refine ⟨by omega, ?_⟩
            omega)
      · have hkl : j + 2 + i = l.length := by omega
        have him : (((cpK l (j + 2 + i)).length : Nat) : Int).toNat + ((cpK l (j + 2 + i) ++ l.drop (cpK l (j + 2 + i)).length).length - (((cpK l (j + 2 + i)).length : Nat) : Int).toNat) = (cpK l (j + 2 + i) ++ l.drop (cpK l (j + 2 + i)).length).length := by rw [Int.toNat_natCast]; omega
        refine X.exit ?_
        refine X.seq ?_
        refine X.region ?_
        iterate 2 refine Ex.pu ?_
        refine Ex.pur (P_slice_tail rfl rfl rfl sl26 ty51 (by omega) (by omega)) rfl ?_
        refine Ex.stepM (M_clear tmZ rfl rfl (fun _ => rfl) (by decide) sl26 ti51 rfl rfl rfl him) ?_
        refine Ex.nil ?_
        refine X.seq ?_
        refine X.region ?_
        iterate 2 refine Ex.pu ?_
        refine Ex.stepM (M_take rfl rfl rfl sl26 ty51 (by omega) (by simp; omega) rfl) ?_
        refine Ex.pu ?_
        refine Ex.nil ?_
        refine X.ret ?_
        have hfin : List.take (((cpK l (j + 2 + i)).length : Nat) : Int).toNat (List.take (((cpK l (j + 2 + i)).length : Nat) : Int).toNat (cpK l (j + 2 + i) ++ l.drop (cpK l (j + 2 + i)).length) ++ List.replicate ((cpK l (j + 2 + i) ++ l.drop (cpK l (j + 2 + i)).length).length - (((cpK l (j + 2 + i)).length : Nat) : Int).toNat) tmZ) = cpT l := by
          rw [Int.toNat_natCast, List.take_append_of_le_length (by simp), List.take_take, Nat.min_self, List.take_append_of_le_length (Nat.le_refl _), List.take_of_length_le (Nat.le_refl _)]; unfold cpT; rw [hkl]
        refine RetQO.mk (ts := [(4, .own 2000000)]) (.inr rfl) (Imp.au) (.one (.tmp rfl (LeV.eq rfl)))
    refine X.skip ?_
    refine X.region ?_
    iterate 3 refine Ex.pu ?_
    refine Ex.nil ?_
    refine X.bk (j + 1) (hJ := by
      refine ⟨by omega, fun i v3 u3 h0 h1 h2 h3 => ?_⟩
      rcases Nat.lt_succ_iff_lt_or_eq.1 h1 with h | h
      · exact hk2 i v3 u3 h0 h h2 h3
      · subst h; rw [hv0] at h2; injection h2 with h2; rw [show j + 1 - 1 = j by omega, hu0] at h3; injection h3 with h3; subst h2; subst h3; exact hc3)
  · have hrow1 : l = cpT l := by
      unfold cpT
      rw [cpK_take l.length (fun i v u h0 h1 => hk2 i v u h0 (by omega)), List.take_length]
    refine X.exit ?_
    refine X.seq ?_
    refine X.region ?_
    iterate 2 refine Ex.pu ?_
    refine Ex.nil ?_
    refine X.ret ?_
    refine RetQO.mk (ts := [(4, .own 2000000)]) (.inr rfl) (Imp.au) (.one (.tmp rfl (LeV.eq rfl)))
end Go.Rse
