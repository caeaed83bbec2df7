/-
  Walks: the reference's combinations, cuts and additions; the statement on chosen meanings.
-/
import Derived.Test.YtmbjfeaipblfcaaGreatDoorDotB
import Derived.Test.YtmbjfeaipblfcaaGreatDoorRefA
import Derived.Test.YtmbjfeaipblfcaaGreatDoorKit1
namespace Go.Rse
open Go Go.Proofs
set_option linter.unusedVariables false
set_option linter.unusedSimpArgs false
attribute [local irreducible] Pur StepA StepM Ex X ExG Fn Imp LeV LeB FnO It YStep
theorem ofL_len (m : Mn) (l : List Sg) (n : Int) : (ofL m l n).length ≤ l.length := by
  unfold ofL; split
  · rw [ofD, ofRow_len]; exact mnsD_len m l
  · simp
theorem mkC_len (m : Mn) (l : List Sg) (ch : List Int) : (mkC m l ch).length ≤ l.length := by
  unfold mkC; split
  · exact (mkK_len ch l l.length).2.1
  · simp
theorem mkA_len (m : Mn) (l : List Sg) (ch : List Int) : (mkA m l ch).length ≤ l.length := by
  unfold mkA; split
  · have := mkK_len ch l l.length; omega
  · simp
theorem C_tactusref09_is (l : List Int) (x : Int) (hl : l.length ≤ 4000000000) : Fn Tryz.prog 128 [intsA l, iv x] (.bool (decide (x ∈ l))) := by
  refine Fn.go Tryz.func128 Tryz.ntmps128 (fun g w d => ?_)
  refine X.seq ?_
  refine X.region ?_
  refine Ex.pu ?_
  refine Ex.nil ?_
  refine X.seq ?_
  refine X.seq ?_
  refine X.region ?_
  refine Ex.pu ?_
  refine Ex.nil ?_
  refine X.block ?_
  refine X.lp (ι := Nat) (fun (k : Nat) => [(0, intsA l), (1, iv x), (5, iv (k : Int))]) (fun (k : Nat) => []) (fun (k : Nat) => k ≤ l.length ∧ ∀ (i : Nat) u, i < k → l[i]? = some u → ¬ u = x) (fun (k : Nat) => l.length - k) 0 (fun k hk => ?_) (hJ := by
    exact ⟨by omega, fun i u h => absurd h (Nat.not_lt_zero i)⟩)
  obtain ⟨hk1, hk2⟩ := hk
  refine X.seq ?_
  refine X.seq ?_
  refine X.region ?_
  iterate 4 refine Ex.pu ?_
  refine Ex.nil ?_
  refine X.cd rfl (fun hc1 => ?_) (fun hc1 => ?_)
  · obtain ⟨v, hv⟩ : ∃ v, l[k]? = some v := ⟨_, List.getElem?_eq_getElem (by omega)⟩
    have hv2 : l[(k : Int).toNat]? = some v := by simpa using hv
    refine X.skip ?_
    refine X.seq ?_
    refine X.block ?_
    refine X.seq ?_
    refine X.region ?_
    iterate 6 refine Ex.pu ?_
    refine Ex.nil ?_
    refine X.cd rfl (fun hc2 => ?_) (fun hc2 => ?_)
    · refine X.seq ?_
      refine X.region ?_
      refine Ex.pu ?_
      refine Ex.nil ?_
      refine X.ret ?_
      refine RetQ.ret (.one (.tmp rfl (LeV.eq ?_)))
      all_goals (congr 1; exact (decide_eq_true (by rw [← hc2]; exact List.mem_of_getElem? hv)).symm)
    refine X.skip ?_
    refine X.region ?_
    iterate 3 refine Ex.pu ?_
    refine Ex.nil ?_
    refine X.bk (k + 1) (hJ := by
      refine ⟨by omega, fun i u hi hu => ?_⟩
      rcases Nat.lt_succ_iff_lt_or_eq.1 hi with h | h
      · exact hk2 i u h hu
      · subst h; rw [hv] at hu; injection hu with hu; subst hu; exact hc2)
  · refine X.exit ?_
    refine X.seq ?_
    refine X.region ?_
    refine Ex.pu ?_
    refine Ex.nil ?_
    refine X.ret ?_
    refine RetQ.ret (.one (.tmp rfl (LeV.eq ?_)))
    all_goals (congr 1; exact (decide_eq_false (mem_not fun i u hi => hk2 i u (by omega))).symm)
set_option maxHeartbeats 4000000 in
theorem C_tactusref09_Marks (m : Mn) (l : List Sg) (hl : l.length ≤ 1000) (ch : List Int) (hch : ch.length ≤ 4000000) : Fn Tryz.prog 70 [mnA m, sgsA l, intsA ch] (.tup [intsA (mkC m l ch), boolsA (mkA m l ch), iv (mkE m l ch)]) := by
  obtain ⟨L0, hX, hM⟩ : ∃ L0, (ckD m l = 0 → L0 = mnsD m l) ∧ Fn Tryz.prog 79 [mnA m, sgsA l] (.tup [listsA L0, iv (ckD m l)]) := ⟨_, fun h => if_pos h, C_tactusref09_Meanings' m l hl⟩
  refine Fn.go Tryz.func70 Tryz.ntmps70 (fun g w d => ?_)
  refine X.seq ?_
  refine X.region ?_
  refine Ex.ba ?_
  iterate 3 refine Ex.pu ?_
  refine Ex.nil ?_
  refine X.seq ?_
  refine X.region ?_
  iterate 2 refine Ex.pu ?_
  refine Ex.ca hM ?_
  iterate 5 refine Ex.pu ?_
  refine Ex.nil ?_
  refine X.seq ?_
  refine X.seq ?_
  refine X.region ?_
  iterate 2 refine Ex.pu ?_
  refine Ex.nil ?_
  refine X.cd rfl (fun hc1 => ?_) (fun hc1 => ?_)
  · have hE : mkE m l ch = ckD m l := by unfold mkE; rw [if_neg hc1]
    have hC : mkC m l ch = [] := by unfold mkC; rw [if_neg (by rw [hE]; exact hc1)]
    have hA : mkA m l ch = [] := by unfold mkA; rw [if_neg (by rw [hE]; exact hc1)]
    refine X.seq ?_
    refine X.region ?_
    iterate 4 refine Ex.pu ?_
    refine Ex.nil ?_
    refine X.ret ?_
    refine RetQ.imp (Imp.au (ts := [(6, intsA []), (7, boolsA []), (8, iv (ckD m l))]) (hs := [])) ?_
    refine RetQ.ret (.many (by decide) (.cons (.tmp rfl (LeV.eq ?_)) (.cons (.tmp rfl (LeV.eq ?_)) (.cons (.tmp rfl (LeV.eq ?_)) .nil))))
    all_goals (first | (rw [hC]; done) | (rw [hA]; done) | (rw [hE]; done) | (rw [hC]; rfl) | (rw [hA]; rfl) | (rw [hE]; rfl))
  have hX2 := hX hc1
  subst hX2
  have hml := mnsD_len m l
  have hcf := ckD_from hc1
  have hdl : (mnsD m l).length = (dotsK l l.length).length := by simp [mnsD]
  refine X.skip ?_
  refine X.seq ?_
  refine X.seq ?_
  refine X.region ?_
  iterate 5 refine Ex.pu ?_
  refine Ex.nil ?_
  refine X.cd rfl (fun hc2 => ?_) (fun hc2 => ?_)
  · have hE : mkE m l ch = 2 := by unfold mkE; rw [if_pos hc1, if_neg (fun h => by have := h.1; omega)]
    have hC : mkC m l ch = [] := by unfold mkC; rw [if_neg (by omega)]
    have hA : mkA m l ch = [] := by unfold mkA; rw [if_neg (by omega)]
    refine X.seq ?_
    refine X.region ?_
    iterate 3 refine Ex.pu ?_
    refine Ex.nil ?_
    refine X.ret ?_
    refine RetQ.imp (Imp.au (ts := [(6, intsA []), (7, boolsA []), (8, iv 2)]) (hs := [])) ?_
    refine RetQ.ret (.many (by decide) (.cons (.tmp rfl (LeV.eq ?_)) (.cons (.tmp rfl (LeV.eq ?_)) (.cons (.tmp rfl (LeV.eq ?_)) .nil))))
    all_goals (first | (rw [hC]; done) | (rw [hA]; done) | (rw [hE]; done) | (rw [hC]; rfl) | (rw [hA]; rfl) | (rw [hE]; rfl))
  refine X.skip ?_
  refine X.seq ?_
  refine X.seq ?_
  refine X.region ?_
  refine Ex.pu ?_
  refine Ex.nil ?_
  refine X.block ?_
  refine X.lp (ι := Nat) (fun (k : Nat) => [(1, sgsA l), (2, intsA ch), (9, listsA (mnsD m l)), (11, iv (k : Int))]) (fun (k : Nat) => []) (fun (k : Nat) => k ≤ (mnsD m l).length ∧ ∀ i, i < k → ∀ x v, (mnsD m l)[i]? = some x → ch[i]? = some v → v ∈ x) (fun (k : Nat) => (mnsD m l).length - k) 0 (fun k hk => ?_) (hJ := by
    exact ⟨by omega, fun i h => absurd h (Nat.not_lt_zero i)⟩)
  obtain ⟨hk1, hk2⟩ := hk
  refine X.seq ?_
  refine X.seq ?_
  refine X.region ?_
  iterate 4 refine Ex.pu ?_
  refine Ex.nil ?_
  refine X.cd rfl (fun hc3 => ?_) (fun hc3 => ?_)
  · obtain ⟨x, hx⟩ : ∃ x, (mnsD m l)[k]? = some x := ⟨_, List.getElem?_eq_getElem (by omega)⟩
    have hx2 : (mnsD m l)[(k : Int).toNat]? = some x := by simpa using hx
    obtain ⟨c, hcc⟩ : ∃ c, ch[k]? = some c := ⟨_, List.getElem?_eq_getElem (by omega)⟩
    have hcc2 : ch[(k : Int).toNat]? = some c := by simpa using hcc
    have hxl := mnsD_len2 (List.mem_of_getElem? hx)
    refine X.skip ?_
    refine X.seq ?_
    refine X.block ?_
    refine X.seq ?_
    refine X.dw [36,37,38,39,40,41,42,43,44,45] [0,0,3,7,0,0,48,112,255,511] mo ?_
    iterate 8 refine ChM.pu ?_
    refine ChM.ca (C_tactusref09_is x c (by omega)) ?_
    refine ChM.pu ?_
    refine ChM.tl ?_
    refine Ex.nil ?_
    refine X.cd rfl (fun hc4 => ?_) (fun hc4 => ?_)
    · have hE : mkE m l ch = 2 := by unfold mkE; rw [if_pos hc1, if_neg (fun h => hc4 (chOk_iff.1 h.2 k x c hx hcc))]
      have hC : mkC m l ch = [] := by unfold mkC; rw [if_neg (by omega)]
      have hA : mkA m l ch = [] := by unfold mkA; rw [if_neg (by omega)]
      refine X.seq ?_
      refine X.region ?_
      iterate 3 refine Ex.pu ?_
      refine Ex.nil ?_
      refine X.ret ?_
      refine RetQ.imp (Imp.au (ts := [(6, intsA []), (7, boolsA []), (8, iv 2)]) (hs := [])) ?_
      refine RetQ.ret (.many (by decide) (.cons (.tmp rfl (LeV.eq ?_)) (.cons (.tmp rfl (LeV.eq ?_)) (.cons (.tmp rfl (LeV.eq ?_)) .nil))))
      all_goals (first | (rw [hC]; done) | (rw [hA]; done) | (rw [hE]; done) | (rw [hC]; rfl) | (rw [hA]; rfl) | (rw [hE]; rfl))
    refine X.skip ?_
    refine X.region ?_
    iterate 3 refine Ex.pu ?_
    refine Ex.nil ?_
    refine X.bk (k + 1) (hJ := by
      refine ⟨by omega, fun i hi x1 v1 h1 h2 => ?_⟩
      rcases Nat.lt_succ_iff_lt_or_eq.1 hi with h | h
      · exact hk2 i h x1 v1 h1 h2
      · subst h; rw [hx] at h1; rw [hcc] at h2; injection h1 with h1; injection h2 with h2; subst h1; subst h2; exact hc4)
  · have hok : chOk ch (mnsD m l) := chOk_iff.2 fun i x v hx hv => hk2 i (by have := (List.getElem?_eq_some_iff.1 hx).1; omega) x v hx hv
    have hE : mkE m l ch = 0 := by unfold mkE; rw [if_pos hc1, if_pos ⟨by omega, hok⟩]
    have hC : mkC m l ch = (mkK ch l l.length).1 := by unfold mkC; rw [if_pos hE]
    have hA : mkA m l ch = (mkK ch l l.length).2.1 := by unfold mkA; rw [if_pos hE]
    refine X.exit ?_
    refine X.seq ?_
    refine X.region ?_
    refine Ex.pu ?_
    refine Ex.nil ?_
    refine X.seq ?_
    refine X.region ?_
    refine Ex.pu ?_
    refine Ex.nil ?_
    refine X.seq ?_
    refine X.region ?_
    refine Ex.pu ?_
    refine Ex.nil ?_
    refine X.seq ?_
    refine X.seq ?_
    refine X.imp (Imp.mkrow intE 3 1 12 101 rfl rfl) ?_
    refine X.imp (Imp.mkrow boolE 4 1 13 102 rfl rfl) ?_
    refine X.region ?_
    refine Ex.pu ?_
    refine Ex.nil ?_
    refine X.block ?_
    refine X.lp (ι := Nat) (fun (k : Nat) => [(1, sgsA l), (2, intsA ch), (12, .own 101), (13, .own 102), (14, iv ((mkK ch l k).2.2 : Int)), (15, iv (k : Int))]) (fun (k : Nat) => [(101, .row intE (mkK ch l k).1 3 1), (102, .row boolE (mkK ch l k).2.1 4 1)]) (fun (k : Nat) => k ≤ l.length) (fun (k : Nat) => l.length - k) 0 (fun k hk => ?_)
    refine X.seq ?_
    refine X.seq ?_
    refine X.region ?_
    iterate 4 refine Ex.pu ?_
    refine Ex.nil ?_
    refine X.cd rfl (fun hc5 => ?_) (fun hc5 => ?_)
    · obtain ⟨s, hs⟩ : ∃ s, l[k]? = some s := ⟨_, List.getElem?_eq_getElem (by omega)⟩
      have hs2 : l[(k : Int).toNat]? = some s := by simpa using hs
      obtain ⟨hm1, hm2, hm3⟩ := mkK_len ch l k
      refine X.skip ?_
      refine X.seq ?_
      refine X.block ?_
      refine X.seq ?_
      refine X.seq ?_
      refine X.region ?_
      iterate 6 refine Ex.pu ?_
      refine Ex.nil ?_
      refine X.cd rfl (fun hc6 => ?_) (fun hc6 => ?_)
      · have h6 := mkK_note (ch := ch) hs hc6
        have hr1 : (mkK ch l k).1 ++ [0] = (mkK ch l (k + 1)).1 := by rw [h6]
        have hr2 : (mkK ch l k).2.1 ++ [false] = (mkK ch l (k + 1)).2.1 := by rw [h6]
        have hq1 : ((mkK ch l k).2.2 : Int) = ((mkK ch l (k + 1)).2.2 : Int) := by rw [h6]
        refine X.seq ?_
        refine X.region ?_
        refine Ex.pu ?_
        refine Ex.bs intE [_] ?_
        refine Ex.mo ?_
        refine Ex.pu ?_
        refine Ex.nil ?_
        refine X.seq ?_
        refine X.region ?_
        refine Ex.pu ?_
        refine Ex.bs boolE [_] ?_
        refine Ex.mo ?_
        refine Ex.pu ?_
        refine Ex.nil ?_
        refine X.exit ?_
        refine X.region ?_
        iterate 3 refine Ex.pu ?_
        refine Ex.nil ?_
        refine X.bk (k + 1)
      have h6 := mkK_dot (ch := ch) hs hc6
      have hmo := dotsK_mono l l.length (k + 1) (by omega)
      have hdk : (dotsK l (k + 1)).length = (dotsK l k).length + 1 := by simp [dotsK, hs, hc6]
      have hkp := dot_pos hcf hs hc6
      have hpos := mkK_pos (ch := ch) hcf k hkp (by omega)
      have hcq : ch[((mkK ch l k).2.2 : Int).toNat]? = some (ch.getD (mkK ch l k).2.2 0) := by rw [Int.toNat_natCast, List.getD_eq_getElem?_getD, List.getElem?_eq_getElem (by omega)]; rfl
      have hr1 : (mkK ch l k).1.set (((mkK ch l k).1.length : Int) - 1).toNat (ch.getD (mkK ch l k).2.2 0) = (mkK ch l (k + 1)).1 := by rw [h6]
      have hr2 : (mkK ch l k).2.1.set (((mkK ch l k).2.1.length : Int) - 1).toNat (decide (ch.getD (mkK ch l k).2.2 0 = 0)) = (mkK ch l (k + 1)).2.1 := by rw [h6]
      have hq1 : ((mkK ch l k).2.2 : Int) + 1 = ((mkK ch l (k + 1)).2.2 : Int) := by rw [h6]; simp
      refine X.skip ?_
      refine X.seq ?_
      refine X.region ?_
      iterate 9 refine Ex.pu ?_
      refine Ex.mo ?_
      refine Ex.nil ?_
      refine X.seq ?_
      refine X.region ?_
      iterate 10 refine Ex.pu ?_
      refine Ex.mo ?_
      refine Ex.nil ?_
      refine X.region ?_
      iterate 3 refine Ex.pu ?_
      refine Ex.nil ?_
      refine X.region ?_
      iterate 3 refine Ex.pu ?_
      refine Ex.nil ?_
      refine X.bk (k + 1)
    · have hkl : k = l.length := by omega
      subst hkl
      refine X.exit ?_
      refine X.seq ?_
      refine X.region ?_
      iterate 5 refine Ex.pu ?_
      refine Ex.nil ?_
      refine X.ret ?_
      refine RetQ.imp ((Imp.freeze (k := 101) rfl).trans (Imp.freeze (k := 102) rfl)) ?_
      refine RetQ.ret (.many (by decide) (.cons (.tmp rfl (LeV.eq ?_)) (.cons (.tmp rfl (LeV.eq ?_)) (.cons (.tmp rfl (LeV.eq ?_)) .nil))))
      all_goals (first | (rw [hC]; done) | (rw [hA]; done) | (rw [hE]; done) | (rw [hC]; rfl) | (rw [hA]; rfl) | (rw [hE]; rfl))
attribute [local irreducible] mnsD ofRow ofV ofL ofE ofD cntE cntV ckD
end Go.Rse
