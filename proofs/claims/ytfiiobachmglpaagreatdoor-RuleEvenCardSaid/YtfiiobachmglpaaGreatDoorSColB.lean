/-
  Walks: the positions of pairs.
  Walks: the list of pairs.
  Walks: the plain rule, the count.
  Walks: Rule, Count, Of.
  Walks: Of.
-/
import Derived.Test.YtfiiobachmglpaaGreatDoorSColA
import Derived.Test.YtfiiobachmglpaaGreatDoorSRefA
import Derived.Test.YtfiiobachmglpaaGreatDoorSLogC
set_option linter.unusedSimpArgs false
set_option linter.unusedVariables false
namespace Go.Rse
open Go Go.Proofs
attribute [local irreducible] Pur StepA StepM Ex X ExG Fn Imp LeV LeB FnO It YStep
def isPair (m : Mn) (l : List Sg) (i : Int) : Bool := decide (m.Pro = 2) && pairB l i
def pairK (m : Mn) (l : List Sg) : Nat -> List Int
 | 0 => []
 | k + 1 => if isPair m l (k : Int) = true then pairK m l k ++ [(k : Int)] else pairK m l k
def pairL (m : Mn) (l : List Sg) : List Int := pairK m l l.length
def pairX (m : Mn) (l : List Sg) : List (List AV) := (pairL m l).map fun i => [iv i]
theorem pairK_yes {m : Mn} {l : List Sg} {k : Nat} (h : isPair m l (k : Int) = true) : pairK m l k ++ [(k : Int)] = pairK m l (k + 1) := by
 conv => rhs; unfold pairK
 rw [if_pos h]
theorem pairK_no {m : Mn} {l : List Sg} {k : Nat} (h : isPair m l (k : Int) = false) : pairK m l k = pairK m l (k + 1) := by
 conv => rhs; unfold pairK
 rw [if_neg (by simp [h])]
theorem pairK_len (m : Mn) (l : List Sg) : ∀ k, (pairK m l k).length <= k
 | 0 => Nat.le_refl _
 | k + 1 => by
  unfold pairK
  have := pairK_len m l k
  split
  ·simp; omega
  ·omega
theorem pairK_pre {m : Mn} {l : List Sg} (k : Nat) : ∀ d, ∃ r, pairK m l (k + d) = pairK m l k ++ r
 | 0 => ⟨[], by simp⟩
 | d + 1 => by
  obtain ⟨r, hr⟩ := pairK_pre (m := m) (l := l) k d
  show ∃ r, pairK m l ((k + d) + 1) = _
  by_cases h : isPair m l ((k + d : Nat) : Int) = true
  ·rw [← pairK_yes h, hr]; exact ⟨r ++ [((k + d : Nat) : Int)], by simp⟩
  ·rw [← pairK_no (by simpa using h)]; exact ⟨r, hr⟩
theorem pairX_get {m : Mn} {l : List Sg} {k : Nat} (hk : k < l.length) (h : isPair m l (k : Int) = true) : (pairX m l)[(pairK m l k).length]? = some [iv (k : Int)] := by
 obtain ⟨r, hr⟩ := pairK_pre (m := m) (l := l) (k + 1) (l.length - (k + 1))
 rw [show k + 1 + (l.length - (k + 1)) = l.length by omega, ← pairK_yes h] at hr
 unfold pairX pairL
 rw [hr]; simp
theorem pairX_inv {m : Mn} {l : List Sg} {j : Nat} {zs : List AV} (h : (pairX m l)[j]? = some zs) : ∃ i, (pairL m l)[j]? = some i /\ zs = [iv i] := by
 rw [pairX, List.getElem?_map] at h
 cases hk : (pairL m l)[j]? with
 | none => simp [hk] at h
 | some k => simp [hk] at h; exact ⟨k, rfl, h.symm⟩
attribute [local irreducible] pairB pairK pairL
theorem C_color_pairs_1 (m : Mn) (l : List Sg) (hl : l.length <= 4000000000) : It Tryz.prog 169 [.ept (fun _ : Unit => [.sl sgE l]) () 0, .ept (fun _ : Unit => mnE m) () 0] (pairX m l) := by
 have hp0 : (pairK m l 0).length = 0 := by unfold pairK; rfl
 refine It.intro (ts := fun lY => [(0, .yv lY), (1, .ept (fun _ : Unit => [.sl sgE l]) () 0), (2, .ept (fun _ : Unit => mnE m) () 0)]) (n := 25) (by kernel_rfl) Tryz.func169 rfl Tryz.ntmps169 rfl (fun _ => rfl) (by simp) (fun g w d ds Y lY hY => ?_)
 apply X.sr
 iterate 3 refine Ex.pu ?_
 apply Ex.nil
 apply X.block
 refine X.lp (ι := Nat) (fun (k : Nat) => [(0, .yv lY), (1, .ept (fun _ : Unit => [.sl sgE l]) () 0), (2, .ept (fun _ : Unit => mnE m) () 0), (6, iv l.length), (7, iv (k : Int))]) (fun (k : Nat) => [(1000000, .yld (pairK m l k).length true)]) (fun (k : Nat) => k <= l.length) (fun (k : Nat) => l.length - k) 0 (fun k hk => ?_)
 apply X.sr
 refine Ex.pu ?_
 apply Ex.nil
 apply X.seq
 refine X.cd rfl (fun hc1 => ?_) (fun hc1 => ?_)
 ·apply X.skip
  apply X.seq
  apply X.block
  apply X.sr
  iterate 2 refine Ex.pu ?_
  apply Ex.nil
  apply X.seq
  have hcs : (decide (m.Pro = 2) = false) \/ (decide (m.Pro = 2) = true /\ pairB l (k : Int) = false) \/ (decide (m.Pro = 2) = true /\ pairB l (k : Int) = true) := by cases decide (m.Pro = 2) <;> cases pairB l (k : Int) <;> simp
  rcases hcs with hp | ⟨hp, hq⟩ | ⟨hp, hq⟩
  ·have hg3 : (decide (m.Pro = 2) == true) = false := by rw [hp]; rfl
   have hn : isPair m l (k : Int) = false := by unfold isPair; rw [hp]; rfl
   have hst := pairK_no hn
   have hst2 := congrArg List.length hst.symm
   apply X.region
   iterate 4 refine Ex.pu ?_
   iterate 3 refine Ex.gf ?_
   iterate 2 refine Ex.pu ?_
   iterate 4 refine Ex.gf ?_
   refine Ex.pu ?_
   apply Ex.nil
   refine X.cd rfl (fun hc2 => ?_) (fun hc2 => ?_)
   ·exact absurd hc2 (by decide)
   apply X.skip
   apply X.region
   iterate 2 refine Ex.pu ?_
   apply Ex.nil
   refine X.bk (k + 1)
  ·have hg3 : (decide (m.Pro = 2) == true) = true := by rw [hp]; rfl
   have hg8 : (pairB l (k : Int) == true) = false := by rw [hq]; rfl
   have hn : isPair m l (k : Int) = false := by unfold isPair; rw [hp, hq]; rfl
   have hst := pairK_no hn
   have hst2 := congrArg List.length hst.symm
   apply X.region
   iterate 4 refine Ex.pu ?_
   iterate 2 refine Ex.gp ?_
   (refine Ex.gT rfl rfl ?_ (A_call rfl rfl rfl (LeL.refl _) (C_color_pair l hl (k : Int) (by omega) (by omega))) rfl rfl ?_; iterate 1 (· first | exact hg3 | assumption | rfl | (simp_all; done) | omega))
   iterate 2 refine Ex.pu ?_
   iterate 4 refine Ex.gf ?_
   refine Ex.pu ?_
   apply Ex.nil
   refine X.cd rfl (fun hc3 => ?_) (fun hc3 => ?_)
   ·exact absurd hc3 (by decide)
   apply X.skip
   apply X.region
   iterate 2 refine Ex.pu ?_
   apply Ex.nil
   refine X.bk (k + 1)
  ·have hg3 : (decide (m.Pro = 2) == true) = true := by rw [hp]; rfl
   have hg8 : (pairB l (k : Int) == true) = true := by rw [hq]; rfl
   have hn : isPair m l (k : Int) = true := by unfold isPair; rw [hp, hq]; rfl
   have hst := pairK_yes hn
   have hst2 := congrArg List.length hst
   have hq1 := pairX_get (by omega) hn
   rw [List.length_append] at hst2
   apply X.region
   iterate 4 refine Ex.pu ?_
   iterate 2 refine Ex.gp ?_
   (refine Ex.gT rfl rfl ?_ (A_call rfl rfl rfl (LeL.refl _) (C_color_pair l hl (k : Int) (by omega) (by omega))) rfl rfl ?_; iterate 1 (· first | exact hg3 | assumption | rfl | (simp_all; done) | omega))
   iterate 2 refine Ex.pu ?_
   iterate 2 refine Ex.gp ?_
   refine Ex.yieldG hY rfl rfl rfl (fun _ => ⟨_, _, rfl, rfl, rfl, LeL.refl _, rfl, rfl, hq1, fun b => ?_⟩) (fun h => absurd (h.symm.trans hg8) (by decide))
   refine Ex.gp ?_
   refine Ex.pu ?_
   apply Ex.nil
   refine X.cd rfl (fun hc4 => ?_) (fun hc4 => ?_)
   ·subst hc4
    refine X.ret ?_
    refine ⟨.inr rfl, _, false, rfl, fun hb => by simp at hb⟩
   subst hc4
   have hst3 : (pairK m l (k + 1)).length = (pairK m l k).length + 1 := hst2.symm
   clear hst2
   apply X.skip
   apply X.region
   iterate 2 refine Ex.pu ?_
   apply Ex.nil
   refine X.bk (k + 1)
 ·have hkl : k = l.length := by omega
  subst hkl
  apply X.exit
  refine ⟨.inl rfl, _, true, rfl, fun _ => by unfold pairX pairL; rw [List.length_map]⟩
theorem C_color_pairs (m : Mn) (l : List Sg) : Fn Tryz.prog 96 [mnA m, sgsA l] (.fn 169 [.ept (fun _ : Unit => [.sl sgE l]) () 0, .ept (fun _ : Unit => mnE m) () 0]) := by
 refine Fn.go Tryz.func96 Tryz.ntmps96 (fun g w d => ?_)
 apply X.sr
 refine Ex.ba ?_
 refine Ex.bx ?_
 refine Ex.pu ?_
 apply Ex.ns
 iterate 2 refine Ex.pu ?_
 apply Ex.nil
 refine X.ret ?_
 refine RetQ.imp ((Imp.freezeBox (k := 2) rfl rfl).trans (Imp.freezeBox (k := 3) rfl rfl)) ?_
 refine RetQ.ret (.one (.tmp rfl (LeV.eq ?_)))
 all_goals (first | rfl | (simp_all; done))
end Go.Rse
namespace Go.Rse
open Go Go.Proofs
attribute [local irreducible] Pur StepA StepM Ex X ExG Fn Imp LeV LeB FnO It YStep
theorem pairL_len (m : Mn) (l : List Sg) : (pairL m l).length <= l.length := by unfold pairL; exact pairK_len m l _
theorem take_snoc {α : Type} {a : List α} {j : Nat} {x : α} (h : a[j]? = some x) : a.take j ++ [x] = a.take (j + 1) := by
 rw [List.take_add_one, h]; rfl
attribute [local irreducible] pairB pairK pairL isPair ckD
theorem C_color_Pairs (m : Mn) (z : List Sg) (hl : z.length <= 1000) : FnO Tryz.prog 37 [mnA m, sgsA z] [] [] (.tup [.own 39, iv (ckD m z)]) [(39, .row intE (if ckD m z = 0 then pairL m z else []) 3 1)] := by
 refine FnO.intro (ts := [(0, mnA m), (1, sgsA z)]) (rv := [.tmp 4, .tmp 5]) (n := 24) (cs := []) (by kernel_rfl) Tryz.func37 rfl Tryz.ntmps37 rfl rfl (by simp) rfl rfl rfl rfl (fun g w d vh => ?_)
 apply X.sr
 refine Ex.ba ?_
 iterate 2 refine Ex.pu ?_
 apply Ex.nil
 apply X.seq
 apply X.sr
 iterate 2 refine Ex.pu ?_
 refine Ex.ca (C_dot_Check m z hl) ?_
 refine Ex.pu ?_
 apply Ex.ns
 iterate 2 refine Ex.pu ?_
 apply Ex.nil
 refine X.cd rfl (fun hc1 => ?_) (fun hc1 => ?_)
 ·have hE : [] = (if ckD m z = 0 then pairL m z else []) := by rw [if_neg hc1]
  apply X.sr
  iterate 3 refine Ex.pu ?_
  apply Ex.nil
  refine X.ret ?_
  refine RetQO.imp (Imp.mkrow intE 3 1 4 39 rfl rfl) ?_
  refine RetQO.mk (ts := [(4, .own 39), (5, iv (ckD m z))]) (.inr rfl) (Imp.au) (.many (by decide) (.cons (.tmp rfl (LeV.eq rfl)) (.cons (.tmp rfl (LeV.eq rfl)) .nil)))
 have hpl := pairL_len m z
 apply X.skip
 apply X.sr
 refine Ex.al ?_
 apply Ex.nil
 apply X.seq
 apply X.seq
 refine X.imp (Imp.mkrowB intE 3 1 7 39 27 rfl rfl) ?_
 apply X.region
 iterate 2 refine Ex.pu ?_
 refine Ex.ca (C_color_pairs m z) ?_
 apply Ex.nil
 apply X.block
 have ht0 : [] = (pairL m z).take 0 := by simp
 have htl : (pairL m z).take (pairX m z).length = (if ckD m z = 0 then pairL m z else []) := by
  rw [if_pos hc1]; unfold pairX; rw [List.length_map, List.take_length]
 refine X.range (sl := [7]) (fun j => ([.ptr 7 0 0 0], [(1000001, .hold vh []), (7, .box [.own 39] 27), (39, .row intE ((pairL m z).take j) 3 1)])) (fun j => True) 900001 900002 rfl rfl (by decide) (fun j zs hj => by obtain ⟨i, _, rfl⟩ := pairX_inv hj; rfl) (C_color_pairs_1 m z (by omega)) trivial rfl rfl (by decide) (Nat.zero_le _) (by simp) (fun j zs hj => by obtain ⟨i, _, rfl⟩ := pairX_inv hj; rfl) (fun _ => rfl) rfl rfl (fun l o us => Imp.au) (trivial) (fun j zs hj hJ l ready busy rb vs g w hb hyB => ?_) (fun hJ => ?_)
 ·obtain ⟨i, hi, rfl⟩ := pairX_inv hj
  have hst := take_snoc hi
  have hlt : ((pairL m z).take j).length <= 1000 := by simp; omega
  apply X.region
  refine Ex.pu ?_
  apply Ex.nil
  refine ⟨rfl, rfl, ?_⟩
  apply X.block
  apply X.region
  iterate 2 refine Ex.pu ?_
  refine Ex.bs intE [_] ?_
  iterate 2 refine Ex.mo ?_
  apply Ex.nil
  refine ⟨[.ptr 7 0 0 0], [(1000001, .hold vh []), (7, .box [.own 39] 27), (39, .row intE ((pairL m z).take (j + 1)) 3 1)], Imp.au, rfl, trivial⟩
 apply X.sr
 iterate 3 refine Ex.pu ?_
 apply Ex.nil
 refine X.ret ?_
 refine RetQO.mk (ts := [(4, .own 39), (5, iv (ckD m z))]) (.inr rfl) (Imp.au) (.many (by decide) (.cons (.tmp rfl (LeV.eq rfl)) (.cons (.tmp rfl (LeV.eq rfl)) .nil)))
end Go.Rse
namespace Go.Rse
open Go Go.Proofs
attribute [local irreducible] Pur StepA StepM Ex X ExG Fn Imp LeV LeB FnO It YStep
attribute [local irreducible] pairB pairK pairL isPair ckD
def prL (m : Mn) (l : List Sg) : List Int := if ckD m l = 0 then pairL m l else []
def twos (n : Nat) : List Int := List.replicate n 2
theorem twos_snoc (n : Nat) : twos n ++ [2] = twos (n + 1) := by unfold twos; rw [List.replicate_succ']
theorem twos_len (n : Nat) : (twos n).length = n := by unfold twos; simp
theorem prL_len (m : Mn) (l : List Sg) : (prL m l).length <= l.length := by
 unfold prL; split
 ·exact pairL_len m l
 ·simp
attribute [local irreducible] prL twos
end Go.Rse
namespace Go.Rse
open Go Go.Proofs
attribute [local irreducible] Pur StepA StepM Ex X ExG Fn Imp LeV LeB FnO It YStep
attribute [local irreducible] pairB pairK pairL isPair ckD
theorem C_color_Pairs' (m : Mn) (l : List Sg) (hl : l.length <= 1000) : FnO Tryz.prog 37 [mnA m, sgsA l] [] [] (.tup [.own 39, iv (ckD m l)]) [(39, .row intE (prL m l) 3 1)] := C_color_Pairs m l hl
def ruK (p : List Int) (k : Nat) : List Int := twos k ++ p.drop k
theorem ruK_len {p : List Int} {k : Nat} (h : k <= p.length) : (ruK p k).length = p.length := by unfold ruK; rw [List.length_append, twos_len, List.length_drop]; omega
theorem ruK_set {p : List Int} {k : Nat} (h : k < p.length) : (ruK p k).set k 2 = ruK p (k + 1) := by
 unfold ruK
 rw [List.set_append_right _ _ (by rw [twos_len]; omega), twos_len, Nat.sub_self, ← twos_snoc, List.append_assoc]
 congr 1
 rw [List.drop_eq_getElem_cons h]; rfl
theorem ruK_0 (p : List Int) : p = ruK p 0 := by unfold ruK twos; rfl
theorem ruK_e (p : List Int) : ruK p p.length = twos p.length := by unfold ruK; rw [List.drop_length, List.append_nil]
theorem prL_no {m : Mn} {l : List Sg} (h : ¬ ckD m l = 0) : prL m l = [] := by unfold prL; rw [if_neg h]
attribute [local irreducible] prL twos ruK
theorem C_color_Rule (m : Mn) (l : List Sg) (hl : l.length <= 1000) : Fn Tryz.prog 84 [mnA m, sgsA l] (.tup [intsA (twos (prL m l).length), iv (ckD m l)]) := by
 have hq0 := ruK_0 (prL m l)
 have hqe := ruK_e (prL m l)
 have hpl := prL_len m l
 refine Fn.go Tryz.func84 Tryz.ntmps84 (fun g w d => ?_)
 apply X.sr
 refine Ex.ba ?_
 iterate 2 refine Ex.pu ?_
 apply Ex.ns
 iterate 2 refine Ex.pu ?_
 refine Ex.co [(39, 39)] (C_color_Pairs' m l hl) ?_
 iterate 5 refine Ex.pu ?_
 apply Ex.nil
 apply X.seq
 apply X.sr
 iterate 2 refine Ex.pu ?_
 apply Ex.nil
 refine X.cd rfl (fun hc1 => ?_) (fun hc1 => ?_)
 ·have ht : [] = twos (prL m l).length := by rw [prL_no hc1]; unfold twos; rfl
  apply X.sr
  iterate 3 refine Ex.pu ?_
  apply Ex.nil
  refine X.ret ?_
  refine RetQ.imp (Imp.au (ts := [(4, intsA []), (5, iv (ckD m l))]) (hs := [])) ?_
  refine RetQ.ret (.many (by decide) (.cons (.tmp rfl (LeV.eq ?_)) (.cons (.tmp rfl (LeV.eq ?_)) .nil)))
  all_goals (first | rfl | exact congrArg intsA ht | exact congrArg intsA hqe | exact congrArg (AV.int .i64) hc1.symm)
 apply X.skip
 apply X.seq
 apply X.sr
 iterate 3 refine Ex.pu ?_
 apply Ex.nil
 apply X.block
 refine X.lp (ι := Nat) (fun (k : Nat) => [(6, .own 39), (7, iv 0), (19, iv ((prL m l).length : Int)), (20, iv (k : Int))]) (fun (k : Nat) => [(39, .row intE (ruK (prL m l) k) 3 1)]) (fun (k : Nat) => k <= (prL m l).length) (fun (k : Nat) => (prL m l).length - k) 0 (fun k hk => ?_)
 apply X.sr
 refine Ex.pu ?_
 apply Ex.nil
 apply X.seq
 refine X.cd rfl (fun hc2 => ?_) (fun hc2 => ?_)
 ·have hlen := ruK_len (p := prL m l) (k := k) (by omega)
  have hst := ruK_set (p := prL m l) (k := k) (by omega)
  apply X.skip
  apply X.seq
  apply X.block
  apply X.sr
  iterate 2 refine Ex.pu ?_
  apply Ex.nil
  apply X.region
  iterate 3 refine Ex.pu ?_
  refine Ex.mo ?_
  apply Ex.nil
  apply X.region
  iterate 2 refine Ex.pu ?_
  apply Ex.nil
  refine X.bk (k + 1)
 ·have hkl : k = (prL m l).length := by omega
  subst hkl
  apply X.exit
  apply X.sr
  iterate 3 refine Ex.pu ?_
  apply Ex.nil
  refine X.ret ?_
  refine RetQ.imp (Imp.freeze (k := 39) rfl) ?_
  refine RetQ.ret (.many (by decide) (.cons (.tmp rfl (LeV.eq ?_)) (.cons (.tmp rfl (LeV.eq ?_)) .nil)))
  all_goals (first | rfl | exact congrArg intsA ht | exact congrArg intsA hqe | exact congrArg (AV.int .i64) hc1.symm)
end Go.Rse
namespace Go.Rse
open Go Go.Proofs
attribute [local irreducible] Pur StepA StepM Ex X ExG Fn Imp LeV LeB FnO It YStep
attribute [local irreducible] pairB pairK pairL isPair ckD
attribute [local irreducible] prL
end Go.Rse
