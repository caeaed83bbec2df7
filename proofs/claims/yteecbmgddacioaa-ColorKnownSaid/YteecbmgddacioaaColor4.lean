/-
  Walks: the positions of pairs.
-/
import Derived.Test.YteecbmgddacioaaColor3
import Derived.Test.YteecbmgddacioaaRef9
namespace Go.Rse
open Go Go.Proofs
set_option linter.unusedVariables false
set_option linter.unusedSimpArgs false
attribute [local irreducible] Pur StepA StepM Ex X ExG Fn Imp LeV LeB FnO It YStep
def isPair (m : Mn) (l : List Sg) (i : Int) : Bool := decide (m.Pro = 2) && pairB l i
/-- The pairs that begin before a place. -/
def pairK (m : Mn) (l : List Sg) : Nat → List Int
  | 0 => []
  | k + 1 => if isPair m l (k : Int) = true then pairK m l k ++ [(k : Int)] else pairK m l k
def pairL (m : Mn) (l : List Sg) : List Int := pairK m l l.length
def pairX (m : Mn) (l : List Sg) : List (List AV) := (pairL m l).map fun i => [iv i]
theorem pairK_yes {m : Mn} {l : List Sg} {k : Nat} (h : isPair m l (k : Int) = true) : pairK m l k ++ [(k : Int)] = pairK m l (k + 1) := by
  conv => rhs; unfold pairK
  rw [if_pos h]
theorem pairK_no {m : Mn} {l : List Sg} {k : Nat} (h : isPair m l (k : Int) = false) : pairK m l k = pairK m l (k + 1) := by
  conv => rhs; unfold pairK
  rw [if_neg (by simp [h])]
theorem pairK_len (m : Mn) (l : List Sg) : ∀ k, (pairK m l k).length ≤ k
  | 0 => Nat.le_refl _
  | k + 1 => by
    unfold pairK
    have := pairK_len m l k
    split
    · simp; omega
    · omega
theorem pairK_pre {m : Mn} {l : List Sg} (k : Nat) : ∀ d, ∃ r, pairK m l (k + d) = pairK m l k ++ r
  | 0 => ⟨[], by simp⟩
  | d + 1 => by
    obtain ⟨r, hr⟩ := pairK_pre (m := m) (l := l) k d
    show ∃ r, pairK m l ((k + d) + 1) = _
    by_cases h : isPair m l ((k + d : Nat) : Int) = true
    · rw [← pairK_yes h, hr]; exact ⟨r ++ [((k + d : Nat) : Int)], by simp⟩
    · rw [← pairK_no (by simpa using h)]; exact ⟨r, hr⟩
theorem pairX_get {m : Mn} {l : List Sg} {k : Nat} (hk : k < l.length) (h : isPair m l (k : Int) = true) : (pairX m l)[(pairK m l k).length]? = some [iv (k : Int)] := by
  obtain ⟨r, hr⟩ := pairK_pre (m := m) (l := l) (k + 1) (l.length - (k + 1))
  rw [show k + 1 + (l.length - (k + 1)) = l.length by omega, ← pairK_yes h] at hr
  unfold pairX pairL
  rw [hr]; simp
theorem pairX_inv {m : Mn} {l : List Sg} {j : Nat} {zs : List AV} (h : (pairX m l)[j]? = some zs) : ∃ i, (pairL m l)[j]? = some i ∧ zs = [iv i] := by
  rw [pairX, List.getElem?_map] at h
  cases hk : (pairL m l)[j]? with
  | none => simp [hk] at h
  | some k => simp [hk] at h; exact ⟨k, rfl, h.symm⟩
attribute [local irreducible] pairB pairK pairL
theorem C_color_pairs_1 (m : Mn) (l : List Sg) (hl : l.length ≤ 4000000000) : It Try.prog 165 [.ept (fun _ : Unit => [.sl sgE l]) () 0, .ept (fun _ : Unit => mnE m) () 0] (pairX m l) := by
  have hp0 : (pairK m l 0).length = 0 := by unfold pairK; rfl
  refine It.intro (ts := fun lY => [(0, .yv lY), (1, .ept (fun _ : Unit => [.sl sgE l]) () 0), (2, .ept (fun _ : Unit => mnE m) () 0)]) (n := 25) (by kernel_rfl) Try.func165 rfl Try.ntmps165 rfl (fun _ => rfl) (by simp) (fun g w d ds Y lY hY => ?_)
  refine X.seq ?_
  refine X.region ?_
  iterate 3 refine Ex.pu ?_
  refine Ex.nil ?_
  refine X.block ?_
  refine X.lp (ι := Nat) (fun (k : Nat) => [(0, .yv lY), (1, .ept (fun _ : Unit => [.sl sgE l]) () 0), (2, .ept (fun _ : Unit => mnE m) () 0), (6, iv l.length), (7, iv (k : Int))]) (fun (k : Nat) => [(1000000, .yld (pairK m l k).length true)]) (fun (k : Nat) => k ≤ l.length) (fun (k : Nat) => l.length - k) 0 (fun k hk => ?_)
  refine X.seq ?_
  refine X.region ?_
  refine Ex.pu ?_
  refine Ex.nil ?_
  refine X.seq ?_
  refine X.cd rfl (fun hc1 => ?_) (fun hc1 => ?_)
  · refine X.skip ?_
    refine X.seq ?_
    refine X.block ?_
    refine X.seq ?_
    refine X.region ?_
    iterate 2 refine Ex.pu ?_
    refine Ex.nil ?_
    refine X.seq ?_
    have hcs : (decide (m.Pro = 2) = false) ∨ (decide (m.Pro = 2) = true ∧ pairB l (k : Int) = false) ∨ (decide (m.Pro = 2) = true ∧ pairB l (k : Int) = true) := by cases decide (m.Pro = 2) <;> cases pairB l (k : Int) <;> simp
    rcases hcs with hp | ⟨hp, hq⟩ | ⟨hp, hq⟩
    · have hg3 : (decide (m.Pro = 2) == true) = false := by rw [hp]; rfl
      have hn : isPair m l (k : Int) = false := by unfold isPair; rw [hp]; rfl
      have hst := pairK_no hn
      have hst2 := congrArg List.length hst.symm
      refine X.region ?_
      iterate 4 refine Ex.pu ?_
      iterate 3 refine Ex.gf ?_
      iterate 2 refine Ex.pu ?_
      iterate 4 refine Ex.gf ?_
      refine Ex.pu ?_
      refine Ex.nil ?_
      refine X.cd rfl (fun hc2 => ?_) (fun hc2 => ?_)
      · exact absurd hc2 (by decide)
      refine X.skip ?_
      refine X.region ?_
      iterate 2 refine Ex.pu ?_
      refine Ex.nil ?_
      refine X.bk (k + 1)
    · have hg3 : (decide (m.Pro = 2) == true) = true := by rw [hp]; rfl
      have hg8 : (pairB l (k : Int) == true) = false := by rw [hq]; rfl
      have hn : isPair m l (k : Int) = false := by unfold isPair; rw [hp, hq]; rfl
      have hst := pairK_no hn
      have hst2 := congrArg List.length hst.symm
      refine X.region ?_
      iterate 4 refine Ex.pu ?_
      iterate 2 refine Ex.gp ?_
      (refine Ex.gT rfl rfl ?_ (A_call rfl rfl rfl (LeL.refl _) (C_color_pair l hl (k : Int) (by omega) (by omega))) rfl rfl ?_; iterate 1 (· first | exact hg3 | assumption | rfl | (simp_all; done) | omega))
      iterate 2 refine Ex.pu ?_
      iterate 4 refine Ex.gf ?_
      refine Ex.pu ?_
      refine Ex.nil ?_
      refine X.cd rfl (fun hc3 => ?_) (fun hc3 => ?_)
      · exact absurd hc3 (by decide)
      refine X.skip ?_
      refine X.region ?_
      iterate 2 refine Ex.pu ?_
      refine Ex.nil ?_
      refine X.bk (k + 1)
    · have hg3 : (decide (m.Pro = 2) == true) = true := by rw [hp]; rfl
      have hg8 : (pairB l (k : Int) == true) = true := by rw [hq]; rfl
      have hn : isPair m l (k : Int) = true := by unfold isPair; rw [hp, hq]; rfl
      have hst := pairK_yes hn
      have hst2 := congrArg List.length hst
      have hq1 := pairX_get (by omega) hn
      rw [List.length_append] at hst2
      refine X.region ?_
      iterate 4 refine Ex.pu ?_
      iterate 2 refine Ex.gp ?_
      (refine Ex.gT rfl rfl ?_ (A_call rfl rfl rfl (LeL.refl _) (C_color_pair l hl (k : Int) (by omega) (by omega))) rfl rfl ?_; iterate 1 (· first | exact hg3 | assumption | rfl | (simp_all; done) | omega))
      iterate 2 refine Ex.pu ?_
      iterate 2 refine Ex.gp ?_
      refine Ex.yieldG hY rfl rfl rfl (fun _ => ⟨_, _, rfl, rfl, rfl, LeL.refl _, rfl, rfl, hq1, fun b => ?_⟩) (fun h => absurd (h.symm.trans hg8) (by decide))
      refine Ex.gp ?_
      refine Ex.pu ?_
      refine Ex.nil ?_
      refine X.cd rfl (fun hc4 => ?_) (fun hc4 => ?_)
      · subst hc4
        refine X.ret ?_
        refine ⟨.inr rfl, _, false, rfl, fun hb => by simp at hb⟩
      subst hc4
      have hst3 : (pairK m l (k + 1)).length = (pairK m l k).length + 1 := hst2.symm
      clear hst2
      refine X.skip ?_
      refine X.region ?_
      iterate 2 refine Ex.pu ?_
      refine Ex.nil ?_
      refine X.bk (k + 1)
  · have hkl : k = l.length := by omega
    subst hkl
    refine X.exit ?_
    refine ⟨.inl rfl, _, true, rfl, fun _ => by unfold pairX pairL; rw [List.length_map]⟩
theorem C_color_pairs (m : Mn) (l : List Sg) : Fn Try.prog 134 [mnA m, sgsA l] (.fn 165 [.ept (fun _ : Unit => [.sl sgE l]) () 0, .ept (fun _ : Unit => mnE m) () 0]) := by
  refine Fn.go Try.func134 Try.ntmps134 (fun g w d => ?_)
  refine X.seq ?_
  refine X.region ?_
  refine Ex.ba ?_
  refine Ex.bx ?_
  refine Ex.pu ?_
  refine Ex.nil ?_
  refine X.seq ?_
  refine X.region ?_
  iterate 2 refine Ex.pu ?_
  refine Ex.nil ?_
  refine X.ret ?_
  refine RetQ.imp ((Imp.freezeBox (k := 2) rfl rfl).trans (Imp.freezeBox (k := 3) rfl rfl)) ?_
  refine RetQ.ret (.one (.tmp rfl (LeV.eq ?_)))
  all_goals (first | rfl | (simp_all; done))
end Go.Rse
