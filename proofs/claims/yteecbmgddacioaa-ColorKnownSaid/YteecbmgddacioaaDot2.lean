/-
  Walks: the dots of a run.
-/
import Derived.Test.YteecbmgddacioaaDot1
namespace Go.Rse
open Go Go.Proofs
set_option linter.unusedVariables false
set_option linter.unusedSimpArgs false
attribute [local irreducible] Pur StepA StepM Ex X ExG Fn Imp LeV LeB FnO It YStep
/-- The places of the dots among the first k. -/
def dotsK (l : List Sg) : Nat → List Int
  | 0 => []
  | k + 1 => dotsK l k ++ (match l[k]? with | some s => if s.Kind = 3 then [(k : Int)] else [] | none => [])
theorem dotsK_len (l : List Sg) : ∀ k, (dotsK l k).length ≤ k
  | 0 => Nat.le_refl _
  | k + 1 => by
    have := dotsK_len l k
    simp only [dotsK, List.length_append]
    split
    · split <;> simp <;> omega
    · simp; omega
theorem C_dot_dots (l : List Sg) (hl : l.length ≤ 1000) : Fn Try.prog 115 [sgsA l] (intsA (dotsK l l.length)) := by
  refine Fn.go Try.func115 Try.ntmps115 (fun g w d => ?_)
  refine X.seq ?_
  refine X.region ?_
  refine Ex.pu ?_
  refine Ex.nil ?_
  refine X.seq ?_
  refine X.region ?_
  refine Ex.pu ?_
  refine Ex.nil ?_
  refine X.seq ?_
  refine X.seq ?_
  refine X.imp (Imp.mkrow intE 3 1 3 3 rfl rfl) ?_
  refine X.region ?_
  iterate 3 refine Ex.pu ?_
  refine Ex.nil ?_
  refine X.block ?_
  refine X.lp (ι := Nat) (fun (k : Nat) => [(3, .own 3), (6, sgsA l), (7, iv l.length), (8, iv (k : Int))]) (fun (k : Nat) => [(3, .row intE (dotsK l k) 3 1)]) (fun (k : Nat) => k ≤ l.length) (fun (k : Nat) => l.length - k) 0 (fun k hk => ?_)
  refine X.seq ?_
  refine X.region ?_
  refine Ex.pu ?_
  refine Ex.nil ?_
  refine X.seq ?_
  refine X.cd rfl (fun hc1 => ?_) (fun hc1 => ?_)
  · obtain ⟨s, hs⟩ : ∃ s, l[k]? = some s := ⟨_, List.getElem?_eq_getElem (by omega)⟩
    have hs2 : l[(k : Int).toNat]? = some s := by simpa using hs
    have hdl := dotsK_len l k
    refine X.skip ?_
    refine X.seq ?_
    refine X.block ?_
    refine X.seq ?_
    refine X.region ?_
    iterate 3 refine Ex.pu ?_
    refine Ex.al ?_
    refine Ex.pu ?_
    refine Ex.mo ?_
    refine Ex.nil ?_
    refine X.seq ?_
    refine X.region ?_
    iterate 3 refine Ex.pu ?_
    refine Ex.nil ?_
    refine X.cd rfl (fun hc2 => ?_) (fun hc2 => ?_)
    · have hrow2 : dotsK l k ++ [(k : Int)] = dotsK l (k + 1) := by simp [dotsK, hs, hc2]
      refine X.region ?_
      iterate 2 refine Ex.pu ?_
      refine Ex.bs intE [_] ?_
      refine Ex.mo ?_
      refine Ex.pu ?_
      refine Ex.nil ?_
      refine X.region ?_
      iterate 2 refine Ex.pu ?_
      refine Ex.nil ?_
      refine X.bk (k + 1)
    · have hrow2 : dotsK l k = dotsK l (k + 1) := by simp [dotsK, hs, hc2]
      refine X.skip ?_
      refine X.region ?_
      iterate 2 refine Ex.pu ?_
      refine Ex.nil ?_
      refine X.bk (k + 1)
  · have hk2 : k = l.length := by omega
    subst hk2
    refine X.exit ?_
    refine X.seq ?_
    refine X.region ?_
    iterate 2 refine Ex.pu ?_
    refine Ex.nil ?_
    refine X.ret ?_
    refine RetQ.imp (Imp.freeze (k := 3) rfl) ?_
    refine RetQ.ret (.one (.tmp rfl (LeV.eq ?_)))
    all_goals (first | rfl | (simp_all; done))
end Go.Rse
