/-
  Walks: spellings of a duration.
-/
import Derived.Test.YteecbmgddacioaaGreatSpell2
import Derived.Test.YteecbmgddacioaaGreatRse23
namespace Go.Rse
open Go Go.Proofs
set_option linter.unusedVariables false
set_option linter.unusedSimpArgs false
attribute [local irreducible] Pur StepA StepM Ex X ExG Fn Imp LeV LeB FnO It YStep
structure Sp where
  Value : Int
  Rest : Bool
  Color : Bool
  Dot : Bool
  Way : Int
  deriving DecidableEq
instance : Inhabited Sp := ⟨⟨0, false, false, false, 0⟩⟩
def spE : Sp → List AV := fun s => [iv s.Value, .bool s.Rest, .bool s.Color, .bool s.Dot, iv s.Way]
abbrev spA (s : Sp) : AV := .agg (spE s)
abbrev spsA (l : List Sp) : AV := .sl spE l
instance : EncK spE 5 := ⟨fun _ => rfl⟩
theorem eqL_spE (a b : Sp) : eqL (spE a) (spE b) = some (decide (a = b)) := by
  cases a; cases b
  refine (eqL_cons rfl (eqL_cons rfl (eqL_cons rfl (eqL_cons rfl (eqL_cons rfl rfl))))).trans ?_
  have hb : ∀ a b : Bool, (a == b) = decide (a = b) := by decide
  simp [Bool.decide_and, hb]
def spOf (v w : Int) : Sp := ⟨v, decide (w = 8), decide (w = 5) || decide (w = 6) || decide (w = 7), decide (w = 2) || decide (w = 6), w⟩
def tfx (t : Tm) (l : List Tm) : Int := if l.findIdx (fun u => decide (t = u)) < l.length then (l.findIdx (fun u => decide (t = u)) : Int) else -1
theorem tfx_hit {t : Tm} {l : List Tm} {k : Nat} {v : Tm} (hv : l[k]? = some v) (hp : t = v) (hJ : ∀ i u, i < k → l[i]? = some u → ¬ t = u) : tfx t l = k := by
  have hk : k < l.length := (List.getElem?_eq_some_iff.1 hv).1
  have hg : l[k] = v := (List.getElem?_eq_some_iff.1 hv).2
  have : l.findIdx (fun u => decide (t = u)) = k := (List.findIdx_eq hk).2 ⟨by rw [hg]; simpa using hp, fun j hj => by simpa using hJ j _ hj (List.getElem?_eq_getElem (by omega))⟩
  unfold tfx; rw [this, if_pos hk]
theorem tfx_none {t : Tm} {l : List Tm} (hJ : ∀ i u, i < l.length → l[i]? = some u → ¬ t = u) : tfx t l = -1 := by
  have : l.findIdx (fun u => decide (t = u)) = l.length := List.findIdx_eq_length.2 fun x hx => by
    obtain ⟨i, hi⟩ := List.mem_iff_getElem?.1 hx
    simpa using hJ i x (List.getElem?_eq_some_iff.1 hi).1 hi
  unfold tfx; rw [if_neg (by omega)]
theorem tfx_mem (t : Tm) (l : List Tm) : decide (0 ≤ tfx t l) = decide (t ∈ l) := by
  by_cases h : t ∈ l
  · have : l.findIdx (fun u => decide (t = u)) < l.length := List.findIdx_lt_length_of_exists ⟨t, h, by simp⟩
    simp only [tfx, if_pos this, h]; simp
  · have h2 : l.findIdx (fun u => decide (t = u)) = l.length := List.findIdx_eq_length.2 fun u hu => decide_eq_false fun e => h (e ▸ hu)
    have : ¬ l.findIdx (fun u => decide (t = u)) < l.length := by omega
    simp only [tfx, if_neg this, h]; simp
theorem wdL_len (m : Mn) {v : Int} (h1 : 1 ≤ v) (n : Nat) : (wdL m v n).length ≤ 81 := by
  have h3 := lsL_len m v (5 - v).toNat v (fullT m v) false
  have h4 : 3 ^ (5 - v).toNat ≤ 3 ^ 4 := Nat.pow_le_pow_right (by decide) (by omega)
  have h5 : 3 ^ 4 = 81 := rfl
  unfold wdL
  repeat' split
  all_goals first | (simp; done) | omega
/-- The spellings of a value among the first n ways; of the first k values. -/
def alI (m : Mn) (t : Tm) (v : Int) : Nat → List Sp
  | 0 => []
  | n + 1 => if n ≠ 0 ∧ t ∈ wdL m v n then alI m t v n ++ [spOf v (n : Int)] else alI m t v n
def alO (m : Mn) (t : Tm) : Nat → List Sp
  | 0 => []
  | k + 1 => alO m t k ++ alI m t (1 + (k : Int)) 9
theorem alI_len (m : Mn) (t : Tm) (v : Int) : ∀ n, (alI m t v n).length ≤ n
  | 0 => Nat.le_refl _
  | n + 1 => by
    have := alI_len m t v n
    unfold alI; split
    · simp; omega
    · omega
theorem alO_len (m : Mn) (t : Tm) : ∀ k, (alO m t k).length ≤ 9 * k
  | 0 => Nat.le_refl _
  | k + 1 => by
    have h1 := alO_len m t k
    have h2 := alI_len m t (1 + (k : Int)) 9
    unfold alO; simp; omega
theorem alI_yes {m : Mn} {t : Tm} {v : Int} {n : Nat} (hn : n ≠ 0) (h : t ∈ wdL m v n) (X : List Sp) : X ++ alI m t v n ++ [spOf v (n : Int)] = X ++ alI m t v (n + 1) := by
  conv => rhs; unfold alI
  rw [if_pos ⟨hn, h⟩, List.append_assoc]
theorem alI_no {m : Mn} {t : Tm} {v : Int} {n : Nat} (h : n = 0 ∨ ¬ t ∈ wdL m v n) (X : List Sp) : X ++ alI m t v n = X ++ alI m t v (n + 1) := by
  conv => rhs; unfold alI
  rw [if_neg (fun e => by rcases h with h | h; exact e.1 h; exact h e.2)]
def allE (m : Mn) (t : Tm) : List Sp := if bthE m t = 0 then alO m t 8 else []
theorem fnT : fnTy Tryz.prog 38 := ⟨_, _, _, Tryz.underlying38⟩
theorem ways_at (j : Nat) (hj : j < 9) : (j = 0 ∧ (waysA.drop ((j : Int).toNat * 4)).take 4 = [.bool false, .bool false, .bool false, .nilf]) ∨
    (j ≠ 0 ∧ ∃ f, (waysA.drop ((j : Int).toNat * 4)).take 4 = [.bool (decide ((j : Int) = 8)), .bool (decide ((j : Int) = 5) || decide ((j : Int) = 6) || decide ((j : Int) = 7)), .bool (decide ((j : Int) = 2) || decide ((j : Int) = 6)), .fn f []] ∧
      ∀ (m : Mn) (v : Int), ckM m = 0 → 1 ≤ v → v ≤ 8 → Fn Tryz.prog f [mnA m, iv v] (tmsA (wdL m v j))) := by
  rcases j with _ | _ | _ | _ | _ | _ | _ | _ | _ | j
  · exact .inl ⟨rfl, rfl⟩
  · exact .inr ⟨by decide, _, rfl, fun m v a b c => C_spell_ways_1 m v a b c⟩
  · exact .inr ⟨by decide, _, rfl, fun m v a b c => C_spell_ways_2 m v a b c⟩
  · exact .inr ⟨by decide, _, rfl, fun m v a b c => C_spell_lost m v a b c⟩
  · exact .inr ⟨by decide, _, rfl, fun m v a b c => C_spell_ways_3 m v a b c⟩
  · exact .inr ⟨by decide, _, rfl, fun m v a b c => C_spell_ways_4 m v a b c⟩
  · exact .inr ⟨by decide, _, rfl, fun m v a b c => C_spell_ways_5 m v a b c⟩
  · exact .inr ⟨by decide, _, rfl, fun m v a b c => C_spell_ways_6 m v a b c⟩
  · exact .inr ⟨by decide, _, rfl, fun m v a b c => C_spell_ways_7 m v a b c⟩
  · omega
attribute [local irreducible] fullT durT mulV wdL alI alO bthE tfx
theorem C_slices_Index_api_Time_api_Time (l : List Tm) (t : Tm) (hl : l.length ≤ 4000000000) : Fn Tryz.prog 62 [tmsA l, tmA t] (iv (tfx t l)) := by
  refine Fn.go Tryz.func62 Tryz.ntmps62 (fun g w d => ?_)
  refine X.seq ?_
  refine X.region ?_
  refine Ex.ba ?_
  refine Ex.pu ?_
  refine Ex.nil ?_
  refine X.seq ?_
  refine X.seq ?_
  refine X.region ?_
  iterate 3 refine Ex.pu ?_
  refine Ex.nil ?_
  refine X.block ?_
  refine X.lp (ι := Nat) (fun (k : Nat) => [(0, tmsA l), (3, .ptr 3 0 0 0), (7, iv l.length), (8, iv (k : Int))]) (fun (k : Nat) => [(3, .box (tmE t) 51)]) (fun (k : Nat) => k ≤ l.length ∧ ∀ i u, i < k → l[i]? = some u → ¬ t = u) (fun (k : Nat) => l.length - k) 0 (fun k hk => ?_) (hJ := by
    exact ⟨by omega, fun i u h => absurd h (Nat.not_lt_zero i)⟩)
  obtain ⟨hk1, hk2⟩ := hk
  refine X.seq ?_
  refine X.region ?_
  refine Ex.pu ?_
  refine Ex.nil ?_
  refine X.seq ?_
  refine X.cd rfl (fun hc1 => ?_) (fun hc1 => ?_)
  · obtain ⟨v, hv⟩ : ∃ v, l[k]? = some v := ⟨_, List.getElem?_eq_getElem (by omega)⟩
    have hv2 : l[(k : Int).toNat]? = some v := by simpa using hv
    refine X.skip ?_
    refine X.seq ?_
    refine X.block ?_
    refine X.seq ?_
    refine X.region ?_
    iterate 2 refine Ex.pu ?_
    refine Ex.nil ?_
    refine X.seq ?_
    refine X.dw [11,12,13,14,15,16] [0,0,0,6,14,31] mo ?_
    iterate 6 refine ChM.pu ?_
    refine ChM.tl ?_
    refine Ex.nil ?_
    refine X.cd rfl (fun hc2 => ?_) (fun hc2 => ?_)
    · refine X.seq ?_
      refine X.region ?_
      iterate 2 refine Ex.pu ?_
      refine Ex.nil ?_
      refine X.ret ?_
      refine RetQ.ret (.one (.tmp rfl (LeV.eq ?_)))
      all_goals (congr 1; exact (tfx_hit hv hc2 hk2).symm)
    refine X.skip ?_
    refine X.region ?_
    iterate 2 refine Ex.pu ?_
    refine Ex.nil ?_
    refine X.bk (k + 1) (hJ := by
      refine ⟨by omega, fun i u hi hu => ?_⟩
      rcases Nat.lt_succ_iff_lt_or_eq.1 hi with h | h
      · exact hk2 i u h hu
      · subst h; rw [hv] at hu; injection hu with hu; subst hu; exact hc2)
  · refine X.exit ?_
    refine X.seq ?_
    refine X.region ?_
    refine Ex.pu ?_
    refine Ex.nil ?_
    refine X.ret ?_
    refine RetQ.ret (.one (.tmp rfl (LeV.eq ?_)))
    all_goals (congr 1; exact (tfx_none (fun i u hi => hk2 i u (by omega))).symm)
theorem C_slices_Contains_api_Time_api_Time (l : List Tm) (t : Tm) (hl : l.length ≤ 4000000000) : Fn Tryz.prog 37 [tmsA l, tmA t] (.bool (decide (t ∈ l))) := by
  refine Fn.go Tryz.func37 Tryz.ntmps37 (fun g w d => ?_)
  refine X.seq ?_
  refine X.region ?_
  refine Ex.ba ?_
  refine Ex.pu ?_
  refine Ex.nil ?_
  refine X.seq ?_
  refine X.region ?_
  iterate 2 refine Ex.pu ?_
  refine Ex.ca (C_slices_Index_api_Time_api_Time l t hl) ?_
  iterate 2 refine Ex.pu ?_
  refine Ex.nil ?_
  refine X.ret ?_
  refine RetQ.ret (.one (.tmp rfl (LeV.eq ?_)))
  all_goals (congr 1; exact tfx_mem t l)
set_option maxHeartbeats 4000000 in
theorem C_spell_All (m : Mn) (t : Tm) : Fn Tryz.prog 17 [mnA m, tmA t] (.tup [spsA (allE m t), iv (bthE m t)]) := by
  refine Fn.go Tryz.func17 Tryz.ntmps17 (fun g w d => ?_)
  refine X.seq ?_
  refine X.region ?_
  refine Ex.ba ?_
  refine Ex.ba ?_
  iterate 2 refine Ex.pu ?_
  refine Ex.nil ?_
  refine X.seq ?_
  refine X.seq ?_
  refine X.region ?_
  iterate 2 refine Ex.pu ?_
  refine Ex.ca (C_spell_both m t) ?_
  refine Ex.pu ?_
  refine Ex.nil ?_
  refine X.seq ?_
  refine X.region ?_
  iterate 2 refine Ex.pu ?_
  refine Ex.nil ?_
  refine X.cd rfl (fun hc1 => ?_) (fun hc1 => ?_)
  · have hV : [] = allE m t := by unfold allE; rw [if_neg hc1]
    refine X.seq ?_
    refine X.region ?_
    iterate 3 refine Ex.pu ?_
    refine Ex.nil ?_
    refine X.ret ?_
    refine RetQ.imp (Imp.au (ts := [(4, spsA []), (5, iv (bthE m t))]) (hs := [])) ?_
    refine RetQ.ret (.many (by decide) (.cons (.tmp rfl (LeV.eq ?_)) (.cons (.tmp rfl (LeV.eq ?_)) .nil)))
    all_goals (first | exact congrArg spsA hV | rfl | exact congrArg (AV.int .i64) hc1.symm)
  refine X.skip ?_
  refine X.seq ?_
  refine X.region ?_
  refine Ex.pu ?_
  refine Ex.nil ?_
  refine X.seq ?_
  refine X.seq ?_
  refine X.imp (Imp.mkrow spE 25 5 7 7 rfl rfl) ?_
  refine X.region ?_
  refine Ex.pu ?_
  refine Ex.nil ?_
  refine X.block ?_
  have hq0 : [] = alO m t 0 := by unfold alO; rfl
  have hck := bthE_0 hc1
  refine X.lp (ι := Nat) (fun (k : Nat) => [(2, .ptr 2 0 0 0), (3, .ptr 3 0 0 0), (7, .own 7), (8, iv (1 + (k : Int)))]) (fun (k : Nat) => [(2, .box (mnE m) 23), (3, .box (tmE t) 51), (7, .row spE (alO m t k) 25 5)]) (fun (k : Nat) => k ≤ 8) (fun (k : Nat) => 8 - k) 0 (fun k hk => ?_) (h0 := by
    exact Imp.ax)
  refine X.seq ?_
  refine X.seq ?_
  refine X.region ?_
  iterate 2 refine Ex.pu ?_
  refine Ex.nil ?_
  refine X.cd rfl (fun hc2 => ?_) (fun hc2 => ?_)
  · refine X.skip ?_
    refine X.seq ?_
    refine X.block ?_
    refine X.seq ?_
    refine X.region ?_
    refine Ex.ca C_spell_ways ?_
    refine Ex.pu ?_
    refine Ex.nil ?_
    refine X.block ?_
    have hq1 : alO m t k = alO m t k ++ alI m t (1 + (k : Int)) 0 := by unfold alI; simp
    have hol := alO_len m t k
    refine X.lp (ι := Nat) (fun (j : Nat) => [(2, .ptr 2 0 0 0), (3, .ptr 3 0 0 0), (7, .own 7), (8, iv (1 + (k : Int))), (21, .agg waysA), (22, iv (j : Int))]) (fun (j : Nat) => [(2, .box (mnE m) 23), (3, .box (tmE t) 51), (7, .row spE (alO m t k ++ alI m t (1 + (k : Int)) j) 25 5)]) (fun (j : Nat) => j ≤ 9) (fun (j : Nat) => 9 - j) 0 (fun j hk => ?_) (h0 := by
      exact Imp.ax)
    refine X.seq ?_
    refine X.region ?_
    refine Ex.pu ?_
    refine Ex.nil ?_
    refine X.seq ?_
    refine X.cd rfl (fun hc3 => ?_) (fun hc3 => ?_)
    · have hil := alI_len m t (1 + (k : Int)) j
      refine X.skip ?_
      refine X.seq ?_
      refine X.block ?_
      refine X.seq ?_
      rcases ways_at j (by omega) with ⟨hj0, hpart⟩ | ⟨hj0, fw, hpart, hF⟩
      · refine X.region ?_
        refine Ex.pu ?_
        refine Ex.pu (hs := P_index_part ArK.h TyK.h rfl rfl (by omega) (by omega) hpart) ?_
        refine Ex.al ?_
        refine Ex.pu ?_
        refine Ex.mo ?_
        refine Ex.nil ?_
        refine X.seq ?_
        refine X.dw [26,27,28,29,30,31,32,33,34,35,36,37] [0,1,3,7,15,31,15,15,255,15,1023,2047] mo ?_
        iterate 2 refine ChM.pu ?_
        refine ChM.step rfl rfl rfl (Pur.stepA (P_neq_nilf fnT rfl rfl)) rfl ?_
        refine ChM.pu ?_
        refine ChM.gn (.any) ?_
        refine ChM.gn (.any) ?_
        refine ChM.gn (.any) ?_
        refine ChM.gn (.any) ?_
        refine ChM.gn (.any) ?_
        refine ChM.gn (.any) ?_
        refine ChM.gn (.bool false) ?_
        refine ChM.pu ?_
        refine ChM.tl ?_
        refine Ex.nil ?_
        refine X.cd rfl (fun hc4 => ?_) (fun hc4 => ?_)
        · simp at hc4
        have hst := alI_no (m := m) (t := t) (v := 1 + (k : Int)) (n := j) (.inl hj0) (alO m t k)
        refine X.skip ?_
        refine X.region ?_
        iterate 2 refine Ex.pu ?_
        refine Ex.nil ?_
        refine X.bk (j + 1) (hI := Imp.ax)
      · refine X.region ?_
        refine Ex.pu ?_
        refine Ex.pu (hs := P_index_part ArK.h TyK.h rfl rfl (by omega) (by omega) hpart) ?_
        refine Ex.al ?_
        refine Ex.pu ?_
        refine Ex.mo ?_
        refine Ex.nil ?_
        refine X.seq ?_
        refine X.dw [26,27,28,29,30,31,32,33,34,35,36,37] [0,1,3,7,15,31,15,15,255,15,1023,2047] mo ?_
        iterate 2 refine ChM.pu ?_
        refine ChM.step rfl rfl rfl (Pur.stepA (P_neq_fn fnT rfl rfl)) rfl ?_
        refine ChM.pu ?_
        iterate 4 refine ChM.gi ?_
        refine ChM.cg (hF m (1 + (k : Int)) hck.1 (by omega) (by omega)) ?_
        refine ChM.gi ?_
        refine ChM.cg (C_slices_Contains_api_Time_api_Time (wdL m (1 + (k : Int)) j) t (by have := wdL_len m (show 1 ≤ 1 + (k : Int) by omega) j; omega)) ?_
        refine ChM.pu ?_
        refine ChM.tl ?_
        refine Ex.nil ?_
        refine X.cd rfl (fun hc5 => ?_) (fun hc5 => ?_)
        · have hst := alI_yes (v := 1 + (k : Int)) hj0 hc5.2 (alO m t k)
          refine X.region ?_
          iterate 10 refine Ex.pu ?_
          refine Ex.bs spE [spOf (1 + (k : Int)) (j : Int)] ?_
          refine Ex.mo ?_
          refine Ex.pu ?_
          refine Ex.nil ?_
          refine X.region ?_
          iterate 2 refine Ex.pu ?_
          refine Ex.nil ?_
          refine X.bk (j + 1) (hI := Imp.ax)
        · have hst := alI_no (m := m) (t := t) (v := 1 + (k : Int)) (n := j) (.inr (by rcases hc5 with h | h; exact absurd h (by decide); exact h)) (alO m t k)
          refine X.skip ?_
          refine X.region ?_
          iterate 2 refine Ex.pu ?_
          refine Ex.nil ?_
          refine X.bk (j + 1) (hI := Imp.ax)
    · have hj9 : j = 9 := by omega
      subst hj9
      have hst : alO m t k ++ alI m t (1 + (k : Int)) 9 = alO m t (k + 1) := by conv => rhs; unfold alO
      refine X.exit ?_
      refine X.region ?_
      iterate 3 refine Ex.pu ?_
      refine Ex.nil ?_
      refine X.bk (k + 1) (hI := Imp.ax)
  · have hk8 : k = 8 := by omega
    subst hk8
    have hV : alO m t 8 = allE m t := by unfold allE; rw [if_pos hc1]
    refine X.exit ?_
    refine X.seq ?_
    refine X.region ?_
    iterate 3 refine Ex.pu ?_
    refine Ex.nil ?_
    refine X.ret ?_
    refine RetQ.imp (Imp.freeze (k := 7) rfl) ?_
    refine RetQ.ret (.many (by decide) (.cons (.tmp rfl (LeV.eq ?_)) (.cons (.tmp rfl (LeV.eq ?_)) .nil)))
    all_goals (first | exact congrArg spsA hV | rfl | exact congrArg (AV.int .i64) hc1.symm)
end Go.Rse
