/-
  Walks: the reference for spellings: rests.
-/
import Derived.Test.YteecbmgddacioaaRef22d
namespace Go.Rse
open Go Go.Proofs
set_option linter.unusedVariables false
set_option linter.unusedSimpArgs false
attribute [local irreducible] Pur StepA StepM Ex X ExG Fn Imp LeV LeB FnO It YStep
/-- A time less j times another one. -/
def sbT (F t : Tm) : Nat → Tm
  | 0 => t
  | j + 1 => subV (sbT F t j) F
def sbN (F t : Tm) : Nat → Nat → Nat
  | 0, j => j
  | f + 1, j => if cmpV (sbT F t j) F < 0 then j else sbN F t f (j + 1)
theorem sbN_end {F t : Tm} : ∀ (f i j : Nat), i ≤ j → j ≤ i + f → (∀ q, q < j → ¬ cmpV (sbT F t q) F < 0) → (cmpV (sbT F t j) F < 0 ∨ i + f ≤ j) → sbN F t f i = j
  | 0, i, j, h1, h2, h3, h4 => by unfold sbN; omega
  | f + 1, i, j, h1, h2, h3, h4 => by
    unfold sbN
    rcases Nat.lt_or_ge i j with hl | hl
    · rw [if_neg (h3 i hl)]
      exact sbN_end f (i + 1) j (by omega) (by omega) h3 (by omega)
    · have : i = j := by omega
      subst this
      rw [if_pos (by omega)]
theorem sbN_le (F t : Tm) : ∀ f i, sbN F t f i ≤ i + f
  | 0, i => Nat.le_refl _
  | f + 1, i => by
    have := sbN_le F t f (i + 1)
    unfold sbN; split <;> omega
def rfC (m : Mn) (k : Nat) (p : List Int × Tm) : Nat := sbN (fullT m (1 + (k : Int))) p.2 (401 - p.1.length) 0
def rfP (m : Mn) (t : Tm) : Nat → List Int × Tm
  | 0 => ([], t)
  | k + 1 => ((rfP m t k).1 ++ List.replicate (rfC m k (rfP m t k)) (1 + (k : Int)), sbT (fullT m (1 + (k : Int))) (rfP m t k).2 (rfC m k (rfP m t k)))
theorem rfP_s (m : Mn) (t : Tm) (k : Nat) : rfP m t (k + 1) = ((rfP m t k).1 ++ List.replicate (rfC m k (rfP m t k)) (1 + (k : Int)), sbT (fullT m (1 + (k : Int))) (rfP m t k).2 (rfC m k (rfP m t k))) := rfl
theorem rfP_len (m : Mn) (t : Tm) : ∀ k, (rfP m t k).1.length ≤ 401
  | 0 => by simp [rfP]
  | k + 1 => by
    have h1 := rfP_len m t k
    have h2 := sbN_le (fullT m (1 + (k : Int))) (rfP m t k).2 (401 - (rfP m t k).1.length) 0
    rw [rfP_s]
    simp only [List.length_append, List.length_replicate, rfC]
    omega
def rfE (m : Mn) (t : Tm) : Int := if bthE m t = 0 then (if t.N = 0 then 2 else if 0 < (rfP m t 8).2.N ∨ 400 < ((rfP m t 8).1.length : Int) then 18 else 0) else bthE m t
def rfV (m : Mn) (t : Tm) : List Int := if rfE m t = 0 then (rfP m t 8).1 else []
attribute [local irreducible] cmpV subV fullT bthE rfP rfC sbT
set_option maxHeartbeats 4000000 in
theorem C_tactusref22_Rests (m : Mn) (t : Tm) : Fn Try.prog 96 [mnA m, tmA t] (.tup [intsA (rfV m t), iv (rfE m t)]) := by
  refine Fn.go Try.func96 Try.ntmps96 (fun g w d => ?_)
  refine X.seq ?_
  refine X.region ?_
  refine Ex.ba ?_
  refine Ex.ba ?_
  iterate 2 refine Ex.pu ?_
  refine Ex.nil ?_
  refine X.seq ?_
  refine X.region ?_
  iterate 2 refine Ex.pu ?_
  refine Ex.ca (C_tactusref22_asks m t) ?_
  refine Ex.pu ?_
  refine Ex.nil ?_
  refine X.seq ?_
  refine X.block ?_
  refine X.seq ?_
  refine X.region ?_
  iterate 3 refine Ex.pu ?_
  refine Ex.nil ?_
  refine X.cd rfl (fun hc1 => ?_) (fun hc1 => ?_)
  · have hE : bthE m t = rfE m t := by unfold rfE; rw [if_neg hc1]
    have hV : [] = rfV m t := by unfold rfV; rw [if_neg (by omega)]
    refine X.seq ?_
    refine X.region ?_
    iterate 3 refine Ex.pu ?_
    refine Ex.nil ?_
    refine X.ret ?_
    refine RetQ.imp (Imp.au (ts := [(4, intsA []), (5, iv (bthE m t))]) (hs := [])) ?_
    refine RetQ.ret (.many (by decide) (.cons (.tmp rfl (LeV.eq ?_)) (.cons (.tmp rfl (LeV.eq ?_)) .nil)))
    all_goals (first | exact congrArg intsA hV | exact congrArg (AV.int .i64) hE)
  refine X.seq ?_
  refine X.region ?_
  iterate 4 refine Ex.pu ?_
  refine Ex.nil ?_
  refine X.cd rfl (fun hc2 => ?_) (fun hc2 => ?_)
  · have hE : 2 = rfE m t := by unfold rfE; rw [if_pos hc1, if_pos hc2]
    have hV : [] = rfV m t := by unfold rfV; rw [if_neg (by omega)]
    refine X.seq ?_
    refine X.region ?_
    iterate 2 refine Ex.pu ?_
    refine Ex.nil ?_
    refine X.ret ?_
    refine RetQ.imp (Imp.au (ts := [(4, intsA []), (5, iv 2)]) (hs := [])) ?_
    refine RetQ.ret (.many (by decide) (.cons (.tmp rfl (LeV.eq ?_)) (.cons (.tmp rfl (LeV.eq ?_)) .nil)))
    all_goals (first | exact congrArg intsA hV | exact congrArg (AV.int .i64) hE)
  refine X.skip ?_
  refine X.seq ?_
  refine X.region ?_
  refine Ex.pu ?_
  refine Ex.nil ?_
  refine X.seq ?_
  refine X.seq ?_
  refine X.imp (Imp.mkrow intE 3 1 7 7 rfl rfl) ?_
  refine X.region ?_
  refine Ex.pu ?_
  refine Ex.nil ?_
  refine X.block ?_
  have hq0 : [] = (rfP m t 0).1 := by unfold rfP; rfl
  have hq1 : tmE t = tmE (rfP m t 0).2 := by unfold rfP; rfl
  have hck := (bthE_0 hc1).1
  refine X.lp (ι := Nat) (fun (k : Nat) => [(2, .ptr 2 0 0 0), (3, .ptr 3 0 0 0), (7, .own 7), (8, iv (1 + (k : Int)))]) (fun (k : Nat) => [(2, .box (mnE m) 23), (3, .box (tmE ((rfP m t k).2)) 26), (7, .row intE ((rfP m t k).1) 3 1)]) (fun (k : Nat) => k ≤ 8) (fun (k : Nat) => 8 - k) 0 (fun k hk => ?_) (h0 := by
    exact Imp.ax)
  refine X.seq ?_
  refine X.seq ?_
  refine X.region ?_
  iterate 2 refine Ex.pu ?_
  refine Ex.nil ?_
  refine X.cd rfl (fun hc3 => ?_) (fun hc3 => ?_)
  · refine X.skip ?_
    refine X.seq ?_
    refine X.block ?_
    refine X.seq ?_
    refine X.region ?_
    iterate 2 refine Ex.pu ?_
    refine Ex.ca (C_tactusref05_FullV (v := 1 + (k : Int)) hck (by omega) (by omega)) ?_
    iterate 3 refine Ex.pu ?_
    refine Ex.al ?_
    refine Ex.mo ?_
    refine Ex.pu ?_
    refine Ex.nil ?_
    refine X.block ?_
    have hol := rfP_len m t k
    have hr0 : (rfP m t k).1 = (rfP m t k).1 ++ List.replicate 0 (1 + (k : Int)) := by simp
    have hr1 : tmE (rfP m t k).2 = tmE (sbT (fullT m (1 + (k : Int))) (rfP m t k).2 0) := by unfold sbT; rfl
    refine X.lp (ι := Nat) (fun (j : Nat) => [(2, .ptr 2 0 0 0), (3, .ptr 3 0 0 0), (7, .own 7), (8, iv (1 + (k : Int))), (9, .ptr 9 0 0 0)]) (fun (j : Nat) => [(2, .box (mnE m) 23), (3, .box (tmE (sbT (fullT m (1 + (k : Int))) (rfP m t k).2 j)) 26), (7, .row intE ((rfP m t k).1 ++ List.replicate j (1 + (k : Int))) 3 1), (9, .box (tmE (fullT m (1 + (k : Int)))) 26)]) (fun (j : Nat) => j ≤ 401 - (rfP m t k).1.length ∧ ∀ q, q < j → ¬ cmpV (sbT (fullT m (1 + (k : Int))) (rfP m t k).2 q) (fullT m (1 + (k : Int))) < 0) (fun (j : Nat) => 401 - (rfP m t k).1.length - j) 0 (fun j hk => ?_) (hJ := by
      exact ⟨by omega, fun q h => absurd h (Nat.not_lt_zero q)⟩) (h0 := by
      exact Imp.ax)
    obtain ⟨hJ1, hJ2⟩ := hk
    have hlr : ((rfP m t k).1 ++ List.replicate j (1 + (k : Int))).length = (rfP m t k).1.length + j := by rw [List.length_append, List.length_replicate]
    refine X.seq ?_
    refine X.seq ?_
    refine X.region ?_
    iterate 2 refine Ex.pu ?_
    refine Ex.ca (C_tactusref22_less (sbT (fullT m (1 + (k : Int))) (rfP m t k).2 j) (fullT m (1 + (k : Int)))) ?_
    refine Ex.pu ?_
    refine ExF.at 4 ?_
    refine ExF.pu ?_
    iterate 3 refine ExF.gi ?_
    refine ExF.done ?_
    refine Ex.pu ?_
    refine Ex.nil ?_
    refine X.cd rfl (fun hc4 => ?_) (fun hc4 => ?_)
    · have hst : (rfP m t k).1 ++ List.replicate j (1 + (k : Int)) ++ [1 + (k : Int)] = (rfP m t k).1 ++ List.replicate (j + 1) (1 + (k : Int)) := by rw [List.append_assoc, ← List.replicate_succ']
      have hsb : tmE (subV (sbT (fullT m (1 + (k : Int))) (rfP m t k).2 j) (fullT m (1 + (k : Int)))) = tmE (sbT (fullT m (1 + (k : Int))) (rfP m t k).2 (j + 1)) := by conv => rhs; unfold sbT
      refine X.skip ?_
      refine X.block ?_
      refine X.seq ?_
      refine X.region ?_
      iterate 2 refine Ex.pu ?_
      refine Ex.ca (C_tactusref01_Sub (sbT (fullT m (1 + (k : Int))) (rfP m t k).2 j) (fullT m (1 + (k : Int)))) ?_
      iterate 3 refine Ex.pu ?_
      refine Ex.mo ?_
      refine Ex.nil ?_
      refine X.region ?_
      iterate 2 refine Ex.pu ?_
      refine Ex.bs intE [1 + (k : Int)] ?_
      refine Ex.mo ?_
      refine Ex.pu ?_
      refine Ex.nil ?_
      refine X.bk (j + 1) (hJ := by
        rw [List.length_append, List.length_replicate] at hc4
        refine ⟨by omega, fun q h => ?_⟩
        rcases Nat.lt_succ_iff_lt_or_eq.1 h with h | h
        · exact hJ2 q h
        · subst h; have := hc4.1; omega) (hm := by (rw [List.length_append, List.length_replicate] at hc4; omega)) (hI := Imp.ax (h2 := by
          refine ⟨⟨_, rfl, ?_⟩, ⟨_, rfl, ?_⟩, ⟨_, rfl, ?_⟩, ⟨_, rfl, ?_⟩, trivial⟩
          · exact LeB.refl _
          · refine LeB.eq ?_; exact congrArg (fun x => Blk.box x _) hsb
          · exact LeB.row hst
          · exact LeB.refl _))
    · have hcn : rfC m k (rfP m t k) = j := by
        unfold rfC
        exact sbN_end _ 0 j (Nat.zero_le _) (by omega) hJ2 (by rcases hc4 with h | h; exact .inl (by omega); exact .inr (by rw [List.length_append, List.length_replicate] at h; omega))
      have hst : (rfP m t k).1 ++ List.replicate j (1 + (k : Int)) = (rfP m t (k + 1)).1 := by rw [rfP_s, hcn]
      have hsb : tmE (sbT (fullT m (1 + (k : Int))) (rfP m t k).2 j) = tmE (rfP m t (k + 1)).2 := by rw [rfP_s, hcn]
      refine X.exit ?_
      refine X.region ?_
      iterate 3 refine Ex.pu ?_
      refine Ex.nil ?_
      refine X.bk (k + 1) (hI := Imp.ax)
  · have hk8 : k = 8 := by omega
    subst hk8
    refine X.exit ?_
    refine X.seq ?_
    refine X.seq ?_
    refine X.region ?_
    iterate 3 refine Ex.pu ?_
    refine ExF.at 3 ?_
    refine ExF.pu ?_
    iterate 3 refine ExF.gi ?_
    refine ExF.done ?_
    refine Ex.pu ?_
    refine Ex.nil ?_
    refine X.cd rfl (fun hc5 => ?_) (fun hc5 => ?_)
    · have hE : 18 = rfE m t := by unfold rfE; rw [if_pos hc1, if_neg hc2, if_pos hc5]
      have hV : [] = rfV m t := by unfold rfV; rw [if_neg (by omega)]
      refine X.seq ?_
      refine X.region ?_
      iterate 2 refine Ex.pu ?_
      refine Ex.nil ?_
      refine X.ret ?_
      refine RetQ.imp (Imp.au (ts := [(4, intsA []), (5, iv 18)]) (hs := [])) ?_
      refine RetQ.ret (.many (by decide) (.cons (.tmp rfl (LeV.eq ?_)) (.cons (.tmp rfl (LeV.eq ?_)) .nil)))
      all_goals (first | exact congrArg intsA hV | exact congrArg (AV.int .i64) hE)
    have hE : 0 = rfE m t := by unfold rfE; rw [if_pos hc1, if_neg hc2, if_neg (by omega)]
    have hV : (rfP m t 8).1 = rfV m t := by unfold rfV; rw [if_pos hE.symm]
    refine X.skip ?_
    refine X.seq ?_
    refine X.region ?_
    iterate 3 refine Ex.pu ?_
    refine Ex.nil ?_
    refine X.ret ?_
    refine RetQ.imp (Imp.freeze (k := 7) rfl) ?_
    refine RetQ.ret (.many (by decide) (.cons (.tmp rfl (LeV.eq ?_)) (.cons (.tmp rfl (LeV.eq ?_)) .nil)))
    all_goals (first | exact congrArg intsA hV | exact congrArg (AV.int .i64) hE)
end Go.Rse
