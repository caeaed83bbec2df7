/-
  Walks: the examples of the chapter on the rule.
-/
import Derived.Test.YtfiiobachmglpaaGreatDoorSRulC
import Derived.Test.YtfiiobachmglpaaGreatDoorSKit1
set_option linter.unusedSimpArgs false
set_option linter.unusedVariables false
namespace Go.Rse
open Go Go.Proofs
attribute [local irreducible] Pur StepA StepM Ex X ExG Fn Imp LeV LeB FnO It YStep FnW FnOW FnP FnD
def hfT (n : Int) : Tm := ⟨n / gI n 2, 2 / gI n 2⟩
theorem hf_s {l : List Int} {k : Nat} {x : Int} (h : l[k]? = some x) : (l.take k).map hfT ++ [⟨x / gI x 2, 2 / gI x 2⟩] = (l.take (k + 1)).map hfT := by
 rw [List.take_add_one, h]; simp [hfT]
theorem C_tactuslaw17_halves (l : List Int) (hl : l.length <= 1000) (hb : ∀ x ∈ l, 0 <= x /\ x <= 1000000) : Fn Tryz.prog 82 [intsA l] (tmsA (l.map hfT)) := by
 refine Fn.go Tryz.func82 Tryz.ntmps82 (fun g w d => ?_)
 apply X.sr
 refine Ex.pu ?_
 apply Ex.ns
 refine Ex.pu ?_
 apply Ex.nil
 apply X.seq
 apply X.seq
 refine X.imp (Imp.mkrow tmE 60 2 3 30 rfl rfl) ?_
 have hz0 : [] = (l.take 0).map hfT := by simp
 apply X.region
 refine Ex.pu ?_
 apply Ex.nil
 apply X.block
 refine X.lp (ι := Nat) (fun (k : Nat) => [(0, intsA l), (3, .own 30), (4, iv (k : Int))]) (fun (k : Nat) => [(30, .row tmE ((l.take k).map hfT) 60 2)]) (fun (k : Nat) => k <= l.length) (fun (k : Nat) => l.length - k) 0 (fun k hk => ?_) (h0 := by
  exact Imp.ax)
 apply X.seq
 apply X.sr
 iterate 4 refine Ex.pu ?_
 apply Ex.nil
 refine X.cd rfl (fun hc1 => ?_) (fun hc1 => ?_)
 ·obtain ⟨x, hx⟩ : ∃ x, l[k]? = some x := ⟨_, List.getElem?_eq_getElem (by omega)⟩
  have hx2 : l[(k : Int).toNat]? = some x := by simpa using hx
  have hxb := hb x (List.mem_of_getElem? hx)
  have hst := hf_s hx
  have htl : ((l.take k).map hfT).length <= 1000 := by rw [List.length_map, List.length_take]; omega
  apply X.skip
  apply X.seq
  apply X.block
  apply X.region
  iterate 5 refine Ex.pu ?_
  refine Ex.ca (C_tactuskit_T x 2 (by omega) (by omega)) ?_
  refine Ex.bs tmE [⟨_, _⟩] ?_
  refine Ex.mo ?_
  refine Ex.pu ?_
  apply Ex.nil
  apply X.region
  iterate 3 refine Ex.pu ?_
  apply Ex.nil
  refine X.bk (k + 1) (hI := Imp.ax)
 ·have hn : k = l.length := by omega
  subst hn
  have hV : (l.take l.length).map hfT = l.map hfT := by rw [List.take_length]
  apply X.exit
  apply X.sr
  iterate 2 refine Ex.pu ?_
  apply Ex.nil
  refine X.ret ?_
  refine RetQ.imp (Imp.freeze (k := 30) rfl) ?_
  refine RetQ.ret (.one (.tmp rfl (LeV.eq ?_)))
  all_goals (exact congrArg (fun z => tmsA z) hV)
end Go.Rse
