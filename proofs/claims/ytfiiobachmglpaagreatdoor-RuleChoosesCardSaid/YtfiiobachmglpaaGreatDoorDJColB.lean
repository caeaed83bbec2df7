/-
  Walks: the positions of pairs.
  Walks: the list of pairs.
  Walks: the plain rule, the count.
  Walks: Rule, Count, Of.
  Walks: Of.
-/
import Derived.Test.YtfiiobachmglpaaGreatDoorDJColA
import Derived.Test.YtfiiobachmglpaaGreatDoorDLogC
set_option linter.unusedSimpArgs false
set_option linter.unusedVariables false
namespace Go.Rse
open Go Go.Proofs
attribute [local irreducible] Pur StepA StepM Ex X Fn Imp LeV LeB FnO It YStep
def isPair (m : Mn) (l : List Sg) (i : Int) : Bool := decide (m.Pro = 2) && pairB l i
def pairK (m : Mn) (l : List Sg) : Nat -> List Int
 | 0 => []
 | k + 1 => if isPair m l (k : Int) = true then pairK m l k ++ [(k : Int)] else pairK m l k
def pairL (m : Mn) (l : List Sg) : List Int := pairK m l l.length
def pairX (m : Mn) (l : List Sg) : List (List AV) := (pairL m l).map fun i => [iv i]
theorem zeu {m : Mn} {l : List Sg} {k : Nat} (h : isPair m l (k : Int) = true) : pairK m l k ++ [(k : Int)] = pairK m l (k + 1) := by
 conv => rhs; unfold pairK
 rw [if_pos h]
theorem zfC {m : Mn} {l : List Sg} {k : Nat} (h : isPair m l (k : Int) = false) : pairK m l k = pairK m l (k + 1) := by
 conv => rhs; unfold pairK
 rw [if_neg (by simp [h])]
theorem zgd (m : Mn) (l : List Sg) : ∀ k, (pairK m l k).length <= k
 | 0 => Nat.le_refl _
 | k + 1 => by
  unfold pairK
  have := zgd m l k
  split
  ·simp; omega
  ·omega
theorem zge {m : Mn} {l : List Sg} (k : Nat) : ∀ d, ∃ r, pairK m l (k + d) = pairK m l k ++ r
 | 0 => ⟨[], by simp⟩
 | d + 1 => by
  obtain ⟨r, hr⟩ := zge (m := m) (l := l) k d
  show ∃ r, pairK m l ((k + d) + 1) = _
  by_cases h : isPair m l ((k + d : Nat) : Int) = true
  ·rw [← zeu h, hr]; exact ⟨r ++ [((k + d : Nat) : Int)], by simp⟩
  ·rw [← zfC (by simpa using h)]; exact ⟨r, hr⟩
theorem ziw {m : Mn} {l : List Sg} {k : Nat} (hk : k < l.length) (h : isPair m l (k : Int) = true) : (pairX m l)[(pairK m l k).length]? = some [iv (k : Int)] := by
 obtain ⟨r, hr⟩ := zge (m := m) (l := l) (k + 1) (l.length - (k + 1))
 rw [show k + 1 + (l.length - (k + 1)) = l.length by omega, ← zeu h] at hr
 unfold pairX pairL
 rw [hr]; simp
theorem zev {m : Mn} {l : List Sg} {j : Nat} {zs : List AV} (h : (pairX m l)[j]? = some zs) : ∃ i, (pairL m l)[j]? = some i /\ zs = [iv i] := by
 rw [pairX, List.getElem?_map] at h
 cases hk : (pairL m l)[j]? with
 | none => simp [hk] at h
 | some k => simp [hk] at h; exact ⟨k, rfl, h.symm⟩
attribute [local irreducible] pairB pairK pairL
theorem zew (m : Mn) (l : List Sg) (hl : l.length <= 4000000000) : It Tryz.prog 169 [.ept (fun _ : Unit => [.sl sgE l]) () 0, .ept (fun _ : Unit => mnE m) () 0] (pairX m l) := by
 have hp0 : (pairK m l 0).length = 0 := by unfold pairK; rfl
 refine It.intro (ts := fun lY => [(0, .yv lY), (1, .ept (fun _ : Unit => [.sl sgE l]) () 0), (2, .ept (fun _ : Unit => mnE m) () 0)]) (n := 25) (by kernel_rfl) Tryz.func169 rfl Tryz.ntmps169 rfl (fun _ => rfl) (by simp) (fun g w d ds Y lY hY => ?_)
 apply X.sr
 iterate 2 refine Ex.pu ?_
 refine Ex.pn ?_
 apply X.block
 refine X.lp (ι := Nat) (fun (k : Nat) => [(0, .yv lY), (1, .ept (fun _ : Unit => [.sl sgE l]) () 0), (2, .ept (fun _ : Unit => mnE m) () 0), (6, iv l.length), (7, iv (k : Int))]) (fun (k : Nat) => [(1000000, .yld (pairK m l k).length true)]) (fun (k : Nat) => k <= l.length) (fun (k : Nat) => l.length - k) 0 (fun k hk => ?_)
 apply X.sr
 refine Ex.pn ?_
 apply X.seq
 refine X.cd rfl ?_ ?_<;>intro hc1
 ·apply X.skip
  apply X.seq
  apply X.block
  apply X.sr
  refine Ex.pu ?_
  refine Ex.pn ?_
  apply X.seq
  have hcs : (decide (m.Pro = 2) = false) \/ (decide (m.Pro = 2) = true /\ pairB l (k : Int) = false) \/ (decide (m.Pro = 2) = true /\ pairB l (k : Int) = true) := by cases decide (m.Pro = 2) <;> cases pairB l (k : Int) <;> simp
  rcases hcs with hp | ⟨hp, hq⟩ | ⟨hp, hq⟩
  ·have hg3 : (decide (m.Pro = 2) == true) = false := by rw [hp]; rfl
   have hn : isPair m l (k : Int) = false := by unfold isPair; rw [hp]; rfl
   have hst := zfC hn
   have hst2 := congrArg List.length hst.symm
   apply X.region
   iterate 4 refine Ex.pu ?_
   iterate 3 refine Ex.gf ?_
   iterate 2 refine Ex.pu ?_
   iterate 4 refine Ex.gf ?_
   refine Ex.pn ?_
   refine X.cd rfl ?_ ?_<;>intro hc2
   ·exact absurd hc2 (by decide)
   apply X.skip
   apply X.region
   refine Ex.pu ?_
   refine Ex.pn ?_
   refine X.bk (k + 1)
  ·have hg3 : (decide (m.Pro = 2) == true) = true := by rw [hp]; rfl
   have hg8 : (pairB l (k : Int) == true) = false := by rw [hq]; rfl
   have hn : isPair m l (k : Int) = false := by unfold isPair; rw [hp, hq]; rfl
   have hst := zfC hn
   have hst2 := congrArg List.length hst.symm
   apply X.region
   iterate 4 refine Ex.pu ?_
   iterate 2 refine Ex.gp ?_
   (refine Ex.gT rfl rfl ?_ (zbp rfl rfl rfl (LeL.refl _) (zd9 l hl (k : Int) (by omega) (by omega))) rfl rfl ?_; iterate 1 (· first | exact hg3 | assumption | rfl | (simp_all; done) | omega))
   iterate 2 refine Ex.pu ?_
   iterate 4 refine Ex.gf ?_
   refine Ex.pn ?_
   refine X.cd rfl ?_ ?_<;>intro hc3
   ·exact absurd hc3 (by decide)
   apply X.skip
   apply X.region
   refine Ex.pu ?_
   refine Ex.pn ?_
   refine X.bk (k + 1)
  ·have hg3 : (decide (m.Pro = 2) == true) = true := by rw [hp]; rfl
   have hg8 : (pairB l (k : Int) == true) = true := by rw [hq]; rfl
   have hn : isPair m l (k : Int) = true := by unfold isPair; rw [hp, hq]; rfl
   have hst := zeu hn
   have hst2 := congrArg List.length hst
   have hq1 := ziw (by omega) hn
   rw [List.length_append] at hst2
   apply X.region
   iterate 4 refine Ex.pu ?_
   iterate 2 refine Ex.gp ?_
   (refine Ex.gT rfl rfl ?_ (zbp rfl rfl rfl (LeL.refl _) (zd9 l hl (k : Int) (by omega) (by omega))) rfl rfl ?_; iterate 1 (· first | exact hg3 | assumption | rfl | (simp_all; done) | omega))
   iterate 2 refine Ex.pu ?_
   iterate 2 refine Ex.gp ?_
   refine Ex.yieldG hY rfl rfl rfl (fun _ => ⟨_, _, rfl, rfl, rfl, LeL.refl _, rfl, rfl, hq1, fun b => ?_⟩) (fun h => absurd (h.symm.trans hg8) (by decide))
   refine Ex.gp ?_
   refine Ex.pn ?_
   refine X.cd rfl ?_ ?_<;>intro hc4
   ·subst hc4
    refine X.ret ?_
    refine ⟨.inr rfl, _, false, rfl, fun hb => by simp at hb⟩
   subst hc4
   have hst3 : (pairK m l (k + 1)).length = (pairK m l k).length + 1 := hst2.symm
   clear hst2
   apply X.skip
   apply X.region
   refine Ex.pu ?_
   refine Ex.pn ?_
   refine X.bk (k + 1)
 ·have hkl : k = l.length := by omega
  subst hkl
  apply X.exit
  refine ⟨.inl rfl, _, true, rfl, fun _ => by unfold pairX pairL; rw [List.length_map]⟩
theorem zfD (m : Mn) (l : List Sg) : Fn Tryz.prog 96 [mnA m, sgsA l] (.fn 169 [.ept (fun _ : Unit => [.sl sgE l]) () 0, .ept (fun _ : Unit => mnE m) () 0]) := by
 refine Fn.go Tryz.func96 Tryz.ntmps96 (fun g w d => ?_)
 apply X.sr
 refine Ex.ba ?_
 refine Ex.bx ?_
 refine Ex.pu ?_
 apply Ex.ns
 refine Ex.pu ?_
 refine Ex.pn ?_
 refine X.ret ?_
 refine RetQ.imp ((Imp.freezeBox (k := 2) rfl rfl).trans (Imp.freezeBox (k := 3) rfl rfl)) ?_
 refine RetQ.r1 ?_
 all_goals (first | rfl | (simp_all; done))
end Go.Rse
namespace Go.Rse
open Go Go.Proofs
attribute [local irreducible] Pur StepA StepM Ex X Fn Imp LeV LeB FnO It YStep
theorem zgf (m : Mn) (l : List Sg) : (pairL m l).length <= l.length := by unfold pairL; exact zgd m l _
theorem zix {α : Type} {a : List α} {j : Nat} {x : α} (h : a[j]? = some x) : a.take j ++ [x] = a.take (j + 1) := by
 rw [List.take_add_one, h]; rfl
attribute [local irreducible] pairB pairK pairL isPair ckD
theorem zfE (m : Mn) (z : List Sg) (hl : z.length <= 1000) : FnO Tryz.prog 37 [mnA m, sgsA z] [] [] (.tup [.own 39, iv (ckD m z)]) [(39, .row intE (if ckD m z = 0 then pairL m z else []) 3 1)] := by
 refine FnO.intro (ts := [(0, mnA m), (1, sgsA z)]) (rv := [.tmp 4, .tmp 5]) (n := 24) (cs := []) (by kernel_rfl) Tryz.func37 rfl Tryz.ntmps37 rfl rfl (by simp) rfl rfl rfl rfl (fun g w d vh => ?_)
 apply X.sr
 refine Ex.ba ?_
 refine Ex.pu ?_
 refine Ex.pn ?_
 apply X.seq
 apply X.sr
 iterate 2 refine Ex.pu ?_
 refine Ex.ca (zb1 m z hl) ?_
 refine Ex.pu ?_
 apply Ex.ns
 refine Ex.pu ?_
 refine Ex.pn ?_
 refine X.cd rfl ?_ ?_<;>intro hc1
 ·have hE : [] = (if ckD m z = 0 then pairL m z else []) := by rw [if_neg hc1]
  apply X.sr
  iterate 2 refine Ex.pu ?_
  refine Ex.pn ?_
  refine X.ret ?_
  refine RetQO.imp (Imp.mkrow intE 3 1 4 39 rfl rfl) ?_
  refine RetQO.mk (ts := [(4, .own 39), (5, iv (ckD m z))]) (.inr rfl) (Imp.au) (.many (by decide) (.cons (.tmp rfl (LeV.eq rfl)) (.cons (.tmp rfl (LeV.eq rfl)) .nil)))
 have hpl := zgf m z
 apply X.skip
 apply X.sr
 refine Ex.al ?_
 apply Ex.nil
 iterate 2 apply X.seq
 refine X.imp (Imp.mkrowB intE 3 1 7 39 27 rfl rfl) ?_
 apply X.region
 iterate 2 refine Ex.pu ?_
 refine Ex.ca (zfD m z) ?_
 apply Ex.nil
 apply X.block
 have ht0 : [] = (pairL m z).take 0 := by simp
 have htl : (pairL m z).take (pairX m z).length = (if ckD m z = 0 then pairL m z else []) := by
  rw [if_pos hc1]; unfold pairX; rw [List.length_map, List.take_length]
 refine X.range (sl := [7]) (fun j => ([.ptr 7 0 0 0], [(1000001, .hold vh []), (7, .box [.own 39] 27), (39, .row intE ((pairL m z).take j) 3 1)])) (fun j => True) 900001 900002 rfl rfl (by decide) (fun j zs hj => by obtain ⟨i, _, rfl⟩ := zev hj; rfl) (zew m z (by omega)) trivial rfl rfl (by decide) (Nat.zero_le _) (by simp) (fun j zs hj => by obtain ⟨i, _, rfl⟩ := zev hj; rfl) (fun _ => rfl) rfl rfl (fun l o us => Imp.au) (trivial) (fun j zs hj hJ l ready busy rb vs g w hb hyB => ?_) (fun hJ => ?_)
 ·obtain ⟨i, hi, rfl⟩ := zev hj
  have hst := zix hi
  have hlt : ((pairL m z).take j).length <= 1000 := by simp; omega
  apply X.region
  refine Ex.pn ?_
  refine ⟨rfl, rfl, ?_⟩
  apply X.block
  apply X.region
  iterate 2 refine Ex.pu ?_
  refine Ex.bs intE [_] ?_
  iterate 2 refine Ex.mo ?_
  apply Ex.nil
  refine ⟨[.ptr 7 0 0 0], [(1000001, .hold vh []), (7, .box [.own 39] 27), (39, .row intE ((pairL m z).take (j + 1)) 3 1)], Imp.au, rfl, trivial⟩
 apply X.sr
 iterate 2 refine Ex.pu ?_
 refine Ex.pn ?_
 refine X.ret ?_
 refine RetQO.mk (ts := [(4, .own 39), (5, iv (ckD m z))]) (.inr rfl) (Imp.au) (.many (by decide) (.cons (.tmp rfl (LeV.eq rfl)) (.cons (.tmp rfl (LeV.eq rfl)) .nil)))
end Go.Rse
namespace Go.Rse
open Go Go.Proofs
attribute [local irreducible] Pur StepA StepM Ex X Fn Imp LeV LeB FnO It YStep
attribute [local irreducible] pairB pairK pairL isPair ckD
def prL (m : Mn) (l : List Sg) : List Int := if ckD m l = 0 then pairL m l else []
def twos (n : Nat) : List Int := List.replicate n 2
theorem ziy (n : Nat) : twos n ++ [2] = twos (n + 1) := by unfold twos; rw [List.replicate_succ']
theorem zdu (n : Nat) : (twos n).length = n := by unfold twos; simp
theorem zgX (m : Mn) (l : List Sg) : (prL m l).length <= l.length := by
 unfold prL; split
 ·exact zgf m l
 ·simp
attribute [local irreducible] prL twos
end Go.Rse
namespace Go.Rse
open Go Go.Proofs
attribute [local irreducible] Pur StepA StepM Ex X Fn Imp LeV LeB FnO It YStep
attribute [local irreducible] pairB pairK pairL isPair ckD
theorem zc6 (m : Mn) (l : List Sg) (hl : l.length <= 1000) : FnO Tryz.prog 37 [mnA m, sgsA l] [] [] (.tup [.own 39, iv (ckD m l)]) [(39, .row intE (prL m l) 3 1)] := zfE m l hl
def ruK (p : List Int) (k : Nat) : List Int := twos k ++ p.drop k
theorem zll {p : List Int} {k : Nat} (h : k <= p.length) : (ruK p k).length = p.length := by unfold ruK; rw [List.length_append, zdu, List.length_drop]; omega
theorem zlm {p : List Int} {k : Nat} (h : k < p.length) : (ruK p k).set k 2 = ruK p (k + 1) := by
 unfold ruK
 rw [List.set_append_right _ _ (by rw [zdu]; omega), zdu, Nat.sub_self, ← ziy, List.append_assoc]
 congr 1
 rw [List.drop_eq_getElem_cons h]; rfl
theorem zoF (p : List Int) : p = ruK p 0 := by unfold ruK twos; rfl
theorem zoG (p : List Int) : ruK p p.length = twos p.length := by unfold ruK; rw [List.drop_length, List.append_nil]
theorem zkO {m : Mn} {l : List Sg} (h : ¬ ckD m l = 0) : prL m l = [] := by unfold prL; rw [if_neg h]
attribute [local irreducible] prL twos ruK
theorem zgg (m : Mn) (l : List Sg) (hl : l.length <= 1000) : Fn Tryz.prog 84 [mnA m, sgsA l] (.tup [intsA (twos (prL m l).length), iv (ckD m l)]) := by
 have hq0 := zoF (prL m l)
 have hqe := zoG (prL m l)
 have hpl := zgX m l
 refine Fn.go Tryz.func84 Tryz.ntmps84 (fun g w d => ?_)
 apply X.sr
 refine Ex.ba ?_
 iterate 2 refine Ex.pu ?_
 apply Ex.ns
 iterate 2 refine Ex.pu ?_
 refine Ex.co [(39, 39)] (zc6 m l hl) ?_
 iterate 4 refine Ex.pu ?_
 refine Ex.pn ?_
 apply X.seq
 apply X.sr
 refine Ex.pu ?_
 refine Ex.pn ?_
 refine X.cd rfl ?_ ?_<;>intro hc1
 ·have ht : [] = twos (prL m l).length := by rw [zkO hc1]; unfold twos; rfl
  apply X.sr
  iterate 2 refine Ex.pu ?_
  refine Ex.pn ?_
  refine X.ret ?_
  refine RetQ.imp (Imp.au (ts := [(4, intsA []), (5, iv (ckD m l))]) (hs := [])) ?_
  refine RetQ.r2 ?_ ?_
  all_goals (first | rfl | exact congrArg intsA ht | exact congrArg intsA hqe | exact congrArg (AV.int .i64) hc1.symm)
 apply X.skip
 apply X.seq
 apply X.sr
 iterate 2 refine Ex.pu ?_
 refine Ex.pn ?_
 apply X.block
 refine X.lp (ι := Nat) (fun (k : Nat) => [(6, .own 39), (7, iv 0), (19, iv ((prL m l).length : Int)), (20, iv (k : Int))]) (fun (k : Nat) => [(39, .row intE (ruK (prL m l) k) 3 1)]) (fun (k : Nat) => k <= (prL m l).length) (fun (k : Nat) => (prL m l).length - k) 0 (fun k hk => ?_)
 apply X.sr
 refine Ex.pn ?_
 apply X.seq
 refine X.cd rfl ?_ ?_<;>intro hc2
 ·have hlen := zll (p := prL m l) (k := k) (by omega)
  have hst := zlm (p := prL m l) (k := k) (by omega)
  apply X.skip
  apply X.seq
  apply X.block
  apply X.sr
  refine Ex.pu ?_
  refine Ex.pn ?_
  apply X.region
  iterate 3 refine Ex.pu ?_
  refine Ex.mo ?_
  apply Ex.nil
  apply X.region
  refine Ex.pu ?_
  refine Ex.pn ?_
  refine X.bk (k + 1)
 ·have hkl : k = (prL m l).length := by omega
  subst hkl
  apply X.exit
  apply X.sr
  iterate 2 refine Ex.pu ?_
  refine Ex.pn ?_
  refine X.ret ?_
  refine RetQ.imp (Imp.freeze (k := 39) rfl) ?_
  refine RetQ.r2 ?_ ?_
  all_goals (first | rfl | exact congrArg intsA ht | exact congrArg intsA hqe | exact congrArg (AV.int .i64) hc1.symm)
end Go.Rse
namespace Go.Rse
open Go Go.Proofs
attribute [local irreducible] Pur StepA StepM Ex X Fn Imp LeV LeB FnO It YStep
attribute [local irreducible] pairB pairK pairL isPair ckD
attribute [local irreducible] prL
end Go.Rse
namespace Go.Rse
open Go Go.Proofs
section
variable {α : Type}
theorem zdw {q : Int} : ∀ (l : List (Int × α)) (i : Nat), mix q l i = (mix q l 0).map (fun p => (p.1 + i, p.2))
 | [], i => rfl
 | p :: l, i => by
  unfold mix
  by_cases h : p.1 = q
  ·simp [h]
  ·rw [if_neg h, if_neg h, zdw l (i + 1), zdw l 1, Option.map_map]
   congr 1; funext x; simp; omega
theorem zj8 (q : Int) : mget q ([] : List (Int × α)) = none := rfl
theorem zcr (q : Int) (p : Int × α) (l : List (Int × α)) : mget q (p :: l) = if p.1 = q then some p.2 else mget q l := by
 have e : mix q (p :: l) 0 = if p.1 = q then some (0, p.2) else mix q l 1 := rfl
 unfold mget
 rw [e]
 by_cases h : p.1 = q
 ·simp [h]
 ·rw [if_neg h, if_neg h, zdw l 1, Option.map_map]; rfl
theorem zj9 (q : Int) (x : α) : mput q x [] = [(q, x)] := rfl
theorem ziE (q : Int) (x : α) (p : Int × α) (l : List (Int × α)) : mput q x (p :: l) = if p.1 = q then (q, x) :: l else p :: mput q x l := by
 unfold mput
 by_cases h : p.1 = q
 ·simp [mix, h]
 ·have e : mix q (p :: l) 0 = (mix q l 0).map (fun z => (z.1 + 1, z.2)) := by
   rw [show mix q (p :: l) 0 = mix q l 1 by simp [mix, h], zdw l 1]
  rw [e, if_neg h]
  cases mix q l 0 with
  | none => rfl
  | some z => rfl
theorem zdx (q q' : Int) (x : α) : ∀ l : List (Int × α), mget q (mput q' x l) = if q' = q then some x else mget q l
 | [] => by rw [zj9, zcr]
 | p :: l => by
  rw [ziE]
  by_cases h : p.1 = q'
  ·rw [if_pos h, zcr, zcr]
   by_cases h2 : q' = q
   ·simp [h2]
   ·rw [if_neg h2, if_neg h2, if_neg (by rw [h]; exact h2)]
  ·rw [if_neg h, zcr, zcr, zdx q q' x l]
   by_cases h2 : p.1 = q
   ·rw [if_pos h2, if_pos h2, if_neg (by omega)]
   ·rw [if_neg h2, if_neg h2]
end
end Go.Rse
namespace Go.Rse
open Go Go.Proofs
def markK (p mi : List Int) : Nat -> List (Int × Tm)
 | 0 => []
 | k + 1 => if mi[k]? = some 2 then mput (p.getD k 0 + 1) ⟨1, 2⟩ (mput (p.getD k 0) ⟨3, 2⟩ (markK p mi k)) else markK p mi k
theorem zfI {α : Type} {l : List α} {k : Nat} {x d : α} (h : l[k]? = some x) : l.getD k d = x := by
 rw [List.getD_eq_getElem?_getD, h]; rfl
theorem ziF {p mi : List Int} {k : Nat} {x y : Int} (hx : p[k]? = some x) (hy : mi[k]? = some y) (h : y = 2) : mput (x + 1) ⟨1, 2⟩ (mput x ⟨3, 2⟩ (markK p mi k)) = markK p mi (k + 1) := by
 conv => rhs; unfold markK
 rw [if_pos (by rw [hy, h]), zfI hx]
theorem ziG {p mi : List Int} {k : Nat} {y : Int} (hy : mi[k]? = some y) (h : y = 1) : markK p mi k = markK p mi (k + 1) := by
 conv => rhs; unfold markK
 rw [if_neg (by rw [hy, h]; simp)]
def bsT (m : Mn) (s : Sg) : Tm := if clr s = true then durT m s.Value else fullT m s.Value
theorem zoH {m : Mn} {s : Sg} (h : clr s = true) : durT m s.Value = bsT m s := by unfold bsT; rw [if_pos h]
theorem zoI {m : Mn} {s : Sg} (h : clr s = false) : fullT m s.Value = bsT m s := by unfold bsT; rw [if_neg (by rw [h]; decide)]
def dvK (m : Mn) (l : List Sg) (M : List (Int × Tm)) : Nat -> List Tm
 | 0 => []
 | k + 1 => match l[k]? with
  | some s => if s.Kind = 3 then dvK m l M k else dvK m l M k ++ [(mget (k : Int) M).getD (bsT m s)]
  | none => dvK m l M k
theorem zg0 {m : Mn} {l : List Sg} {M : List (Int × Tm)} {k : Nat} {s : Sg} (hs : l[k]? = some s) (h : s.Kind = 3) : dvK m l M k = dvK m l M (k + 1) := by
 conv => rhs; unfold dvK
 rw [hs]; simp only [if_pos h]
theorem zhE {m : Mn} {l : List Sg} {M : List (Int × Tm)} {k : Nat} {s : Sg} (hs : l[k]? = some s) (h : ¬ s.Kind = 3) : dvK m l M k ++ [(mget (k : Int) M).getD (bsT m s)] = dvK m l M (k + 1) := by
 conv => rhs; unfold dvK
 rw [hs]; simp only [if_neg h]
theorem ziH (m : Mn) (l : List Sg) (M : List (Int × Tm)) : ∀ k, (dvK m l M k).length <= k
 | 0 => Nat.le_refl _
 | k + 1 => by
  have := ziH m l M k
  unfold dvK
  split
  ·split
   ·omega
   ·simp; omega
  ·omega
theorem zmZ {M : List (Int × Tm)} {i : Int} {b z : Tm} (h : (mget i M).isSome = true) : (mget i M).getD z = (mget i M).getD b := by
 cases hm : mget i M with
 | none => rw [hm] at h; simp at h
 | some x => rfl
theorem zkP {M : List (Int × Tm)} {i : Int} {b : Tm} (h : (mget i M).isSome = false) : b = (mget i M).getD b := by
 cases hm : mget i M with
 | none => rfl
 | some x => rw [hm] at h; simp at h
def mnOk (mi : List Int) : Bool := mi.all fun x => decide (x = 1) || decide (x = 2)
def duE (m : Mn) (l : List Sg) (mi : List Int) : Int := if ckD m l = 0 then (if mi.length = (prL m l).length /\ mnOk mi = true then 0 else 2) else ckD m l
def duM (m : Mn) (l : List Sg) (mi : List Int) : List (Int × Tm) := markK (prL m l) mi (prL m l).length
def duV (m : Mn) (l : List Sg) (mi : List Int) : List Tm := if duE m l mi = 0 then dvK m l (duM m l mi) l.length else []
theorem zka {mi : List Int} {k : Nat} {y : Int} (hy : mi[k]? = some y) (h1 : ¬ y = 1) (h2 : ¬ y = 2) : mnOk mi = false := by
 cases h : mnOk mi with
 | false => rfl
 | true =>
  unfold mnOk at h
  have := List.all_eq_true.1 h y (List.mem_of_getElem? hy)
  simp [h1, h2] at this
theorem zkb {mi : List Int} (h : ∀ (j : Nat) y, j < mi.length -> mi[j]? = some y -> y = 1 \/ y = 2) : mnOk mi = true := by
 unfold mnOk
 rw [List.all_eq_true]
 intro y hy
 obtain ⟨j, hj⟩ := List.mem_iff_getElem?.1 hy
 have := h j y (List.getElem?_eq_some_iff.1 hj).1 hj
 simp [this]
def mnK (mi : List Int) (k : Nat) : Prop := ∀ (j : Nat) y, j < k -> mi[j]? = some y -> y = 1 \/ y = 2
theorem zoJ (mi : List Int) : mnK mi 0 := fun j y h => by omega
theorem zm0 {mi : List Int} {k : Nat} {y : Int} (h : mnK mi k) (hy : mi[k]? = some y) (hv : y = 1 \/ y = 2) : mnK mi (k + 1) := fun j z hj hz => by
 rcases Nat.lt_or_ge j k with h1 | h1
 ·exact h j z h1 hz
 ·have : j = k := by omega
  subst this; rw [hy] at hz; injection hz with hz; subst hz; exact hv
theorem zm1 {mi : List Int} (h : mnK mi mi.length) : mnOk mi = true := zkb fun j y hj hy => h j y hj hy
theorem zoK {m : Mn} {l : List Sg} {mi : List Int} (h : ¬ ckD m l = 0) : ckD m l = duE m l mi := by unfold duE; rw [if_neg h]
theorem zoL {m : Mn} {l : List Sg} {mi : List Int} (h : ckD m l = 0) (h2 : ¬ mi.length = (prL m l).length) : 2 = duE m l mi := by unfold duE; rw [if_pos h, if_neg (fun e => h2 e.1)]
theorem zoM {m : Mn} {l : List Sg} {mi : List Int} (h : ckD m l = 0) (h2 : mnOk mi = false) : 2 = duE m l mi := by unfold duE; rw [if_pos h, if_neg (fun e => by rw [h2] at e; exact absurd e.2 (by decide))]
theorem zoN {m : Mn} {l : List Sg} {mi : List Int} (h : ckD m l = 0) (h1 : mi.length = (prL m l).length) (h2 : mnOk mi = true) : 0 = duE m l mi := by unfold duE; rw [if_pos h, if_pos ⟨h1, h2⟩]
theorem zlo {m : Mn} {l : List Sg} {mi : List Int} {e : Int} (h : e = duE m l mi) (he : ¬ e = 0) : [] = duV m l mi := by unfold duV; rw [if_neg (by rw [← h]; exact he)]
theorem zm2 {m : Mn} {l : List Sg} {mi : List Int} (h : 0 = duE m l mi) : dvK m l (duM m l mi) l.length = duV m l mi := by unfold duV; rw [if_pos h.symm]
theorem zfl {m : Mn} {l : List Sg} (h : ckD m l = 0) {k : Nat} {s : Sg} (hs : l[k]? = some s) (h3 : ¬ s.Kind = 3) : ckM m = 0 /\ 1 <= s.Value /\ s.Value <= 8 := by
 have hm : ckM m = 0 := by
  unfold ckD at h; split at h
  ·assumption
  ·exact absurd h (by assumption)
 have hf : ckFrom m l 0 l = 0 := by unfold ckD at h; rw [if_pos hm] at h; exact h
 have hk : k < l.length := (List.getElem?_eq_some_iff.1 hs).1
 have hF := (zbd hf (k + 1) (by omega)).2 k s (by omega) hs
 unfold sgF at hF
 refine ⟨hm, ?_⟩
 split at hF
 ·split at hF
  ·assumption
  ·omega
 ·first | omega | (rw [if_neg h3] at hF; omega) | (split at hF <;> first | omega | contradiction)
theorem zfJ {m : Mn} {l : List Sg} : ∀ (k : Nat) (x : Int), x ∈ pairK m l k -> 0 <= x /\ x < (k : Int)
 | 0, x, h => by unfold pairK at h; simp at h
 | k + 1, x, h => by
  unfold pairK at h
  split at h
  ·rcases List.mem_append.1 h with h | h
   ·have := zfJ k x h; omega
   ·simp at h; omega
  ·have := zfJ k x h; omega
theorem zm3 {m : Mn} {l : List Sg} {k : Nat} {x : Int} (h : (prL m l)[k]? = some x) : 0 <= x /\ x < (l.length : Int) := by
 unfold prL at h
 split at h
 ·unfold pairL at h; exact zfJ _ x (List.mem_of_getElem? h)
 ·simp at h
end Go.Rse
namespace Go.Rse
open Go Go.Proofs
attribute [local irreducible] Pur StepA StepM Ex X Fn Imp LeV LeB FnO It YStep
theorem ziI : mpOk Tryz.prog 205 3 60 := ⟨by kernel_rfl, _, Tryz.underlying3⟩
theorem zg1 : ∃ d, Tryz.prog.underlying 3 = some (.int d) /\ d = .i64 := ⟨_, Tryz.underlying3, rfl⟩
attribute [local irreducible] pairB pairK pairL isPair ckD prL twos markK dvK mget mput bsT duE duV fullT durT clr
set_option maxHeartbeats 2000000 in
theorem zgi (m : Mn) (l : List Sg) (mi : List Int) (hl : l.length <= 1000) (hmi : mi.length <= 1000) : Fn Tryz.prog 86 [mnA m, sgsA l, intsA mi] (.tup [tmsA (duV m l mi), iv (duE m l mi)]) := by
 have hpl := zgX m l
 have hm0 : [] = markK (prL m l) mi 0 := by unfold markK; rfl
 refine Fn.go Tryz.func86 Tryz.ntmps86 (fun g w d => ?_)
 apply X.sr
 refine Ex.ba ?_
 iterate 2 refine Ex.pu ?_
 apply Ex.ns
 iterate 2 refine Ex.pu ?_
 refine Ex.co [(39, 39)] (zc6 m l hl) ?_
 iterate 4 refine Ex.pu ?_
 refine Ex.pn ?_
 apply X.seq
 apply X.sr
 refine Ex.pu ?_
 refine Ex.pn ?_
 refine X.cd rfl ?_ ?_<;>intro hc1
 ·have hE := zoK (mi := mi) hc1
  have hV := zlo hE hc1
  apply X.sr
  iterate 2 refine Ex.pu ?_
  refine Ex.pn ?_
  refine X.ret ?_
  refine RetQ.imp (Imp.au (ts := [(6, tmsA []), (7, iv (ckD m l))]) (hs := [])) ?_
  refine RetQ.r2 ?_ ?_
  all_goals (first | exact congrArg tmsA hV | exact congrArg (AV.int .i64) hE)
 apply X.skip
 iterate 2 apply X.seq
 refine X.imp (Imp.freeze (k := 39) rfl) ?_
 apply X.region
 iterate 4 refine Ex.pu ?_
 refine Ex.pn ?_
 refine X.cd rfl ?_ ?_<;>intro hc2
 ·have hE := zoL (mi := mi) hc1 (by omega)
  have hV := zlo hE (by decide)
  apply X.sr
  refine Ex.pu ?_
  refine Ex.pn ?_
  refine X.ret ?_
  refine RetQ.imp (Imp.au (ts := [(6, tmsA []), (7, iv 2)]) (hs := [])) ?_
  refine RetQ.r2 ?_ ?_
  all_goals (first | exact congrArg tmsA hV | exact congrArg (AV.int .i64) hE)
 apply X.skip
 apply X.sr
 refine Ex.stepA (zgE (k := 32) (fun i : Int => iv i) tmA) rfl rfl ?_
 refine Ex.pn ?_
 apply X.seq
 apply X.sr
 iterate 2 refine Ex.pu ?_
 refine Ex.pn ?_
 apply X.block
 refine X.lp (ι := Nat) (fun (k : Nat) => [(1, sgsA l), (2, intsA mi), (3, .ptr 3 0 0 0), (10, .mp 32), (33, intsA (prL m l)), (34, iv (prL m l).length), (35, iv (k : Int))]) (fun (k : Nat) => [(3, .box (mnE m) 23), (32, .mpb (fun i : Int => iv i) tmA (markK (prL m l) mi k))]) (fun (k : Nat) => k <= (prL m l).length /\ mnK mi k) (fun (k : Nat) => (prL m l).length - k) 0 (fun k hk => ?_) (hJ := by
  exact ⟨by omega, zoJ mi⟩) (h0 := by
  exact Imp.ax)
 obtain ⟨hk1, hk2⟩ := hk
 apply X.sr
 refine Ex.pn ?_
 apply X.seq
 refine X.cd rfl ?_ ?_<;>intro hc3
 ·obtain ⟨x, hx⟩ : ∃ x, (prL m l)[k]? = some x := ⟨_, L.gg (by omega)⟩
  have hx2 : (prL m l)[(k : Int).toNat]? = some x := by simpa using hx
  have hxb := zm3 hx
  obtain ⟨y, hy⟩ : ∃ y, mi[k]? = some y := ⟨_, L.gg (by omega)⟩
  have hy2 : mi[(k : Int).toNat]? = some y := by simpa using hy
  apply X.skip
  apply X.seq
  apply X.block
  apply X.sr
  iterate 5 refine Ex.pu ?_
  apply Ex.ns
  iterate 3 refine Ex.pu ?_
  refine Ex.pn ?_
  apply X.block
  apply X.sr
  refine Ex.pu ?_
  refine Ex.pn ?_
  refine X.cd rfl ?_ ?_<;>intro hc4
  ·have hst := ziG (p := prL m l) hy hc4
   apply X.skip
   apply X.region
   refine Ex.pu ?_
   refine Ex.pn ?_
   refine X.bk (k + 1) (hJ := by
    exact ⟨by omega, zm0 hk2 hy (by omega)⟩) (hI := Imp.ax)
  ·apply X.sr
   refine Ex.pu ?_
   refine Ex.pn ?_
   refine X.cd rfl ?_ ?_<;>intro hc5
   ·have hst := ziF hx hy hc5
    apply X.region
    iterate 7 refine Ex.pu ?_
    refine Ex.stepM (zdn (venc := tmA) ⟨3, 2⟩ rfl rfl rfl rfl rfl ziI zg1 (fun _ _ => rfl)) ?_
    refine Ex.stepM (zdn (venc := tmA) ⟨1, 2⟩ rfl rfl rfl rfl rfl ziI zg1 (fun _ _ => rfl)) ?_
    apply Ex.nil
    apply X.region
    refine Ex.pu ?_
    refine Ex.pn ?_
    refine X.bk (k + 1) (hJ := by
     exact ⟨by omega, zm0 hk2 hy (by omega)⟩) (hI := Imp.ax)
   ·have hE := zoM hc1 (zka hy hc4 hc5)
    have hV := zlo hE (by decide)
    apply X.sr
    refine Ex.pu ?_
    refine Ex.pn ?_
    refine X.ret ?_
    refine RetQ.imp (Imp.au (ts := [(6, tmsA []), (7, iv 2)]) (hs := [])) ?_
    refine RetQ.r2 ?_ ?_
    all_goals (first | exact congrArg tmsA hV | exact congrArg (AV.int .i64) hE)
 ·have hkl : k = (prL m l).length := by omega
  subst hkl
  have hok : mnOk mi = true := zm1 (by rw [show mi.length = (prL m l).length by omega]; exact hk2)
  have hE := zoN hc1 (by omega) hok
  have hV := zm2 hE
  have hd0 : [] = dvK m l (duM m l mi) 0 := by unfold dvK; rfl
  apply X.exit
  apply X.sr
  refine Ex.pn ?_
  iterate 2 apply X.seq
  refine X.imp (Imp.mkrow tmE 60 2 13 13 rfl rfl) ?_
  apply X.region
  iterate 2 refine Ex.pu ?_
  refine Ex.pn ?_
  apply X.block
  refine X.lp (ι := Nat) (fun (k : Nat) => [(3, .ptr 3 0 0 0), (10, .mp 32), (13, .own 13), (56, sgsA l), (57, iv l.length), (58, iv (k : Int))]) (fun (k : Nat) => [(3, .box (mnE m) 23), (32, .mpb (fun i : Int => iv i) tmA (duM m l mi)), (13, .row tmE (dvK m l (duM m l mi) k) 60 2)]) (fun (k : Nat) => k <= l.length) (fun (k : Nat) => l.length - k) 0 (fun k hk => ?_) (h0 := by
   exact Imp.ax)
  apply X.sr
  refine Ex.pn ?_
  apply X.seq
  refine X.cd rfl ?_ ?_<;>intro hc6
  ·obtain ⟨s, hs⟩ : ∃ s, l[k]? = some s := ⟨_, L.gg (by omega)⟩
   have hs2 : l[(k : Int).toNat]? = some s := by simpa using hs
   have hlen := ziH m l (duM m l mi) k
   apply X.skip
   apply X.seq
   apply X.block
   apply X.sr
   iterate 3 refine Ex.pu ?_
   refine Ex.al ?_
   refine Ex.pu ?_
   refine Ex.mo ?_
   apply Ex.ns
   iterate 2 refine Ex.pu ?_
   refine Ex.pu (hs := zks (venc := tmA) tmZ rfl rfl rfl ziI zg1 (fun _ _ => rfl) (zku ze60)) ?_
   iterate 3 refine Ex.pu ?_
   refine Ex.al ?_
   refine Ex.mo ?_
   refine Ex.pn ?_
   apply X.seq
   apply X.block
   apply X.sr
   iterate 3 refine Ex.pu ?_
   refine Ex.pn ?_
   refine X.cd rfl ?_ ?_<;>intro hc7
   ·have hrow := zg0 (m := m) (M := duM m l mi) hs hc7
    apply X.exit
    apply X.region
    refine Ex.pu ?_
    refine Ex.pn ?_
    refine X.bk (k + 1) (hI := Imp.ax)
   have hval := zfl hc1 hs hc7
   have hrow := zhE (m := m) (M := duM m l mi) hs hc7
   apply X.sr
   refine Ex.pu ?_
   refine Ex.pn ?_
   refine X.cd rfl ?_ ?_<;>intro hc8
   ·rw [← zmZ (z := tmZ) hc8] at hrow
    apply X.skip
    apply X.region
    iterate 2 refine Ex.pu ?_
    refine Ex.bs tmE [⟨_, _⟩] ?_
    refine Ex.mo ?_
    refine Ex.pn ?_
    apply X.region
    refine Ex.pu ?_
    refine Ex.pn ?_
    refine X.bk (k + 1) (hI := Imp.ax)
   ·apply X.sr
    refine Ex.pu ?_
    refine Ex.ca (za0 _) ?_
    refine Ex.pn ?_
    refine X.cd rfl ?_ ?_<;>intro hc9
    ·rw [← zkP hc8, ← zoH hc9] at hrow
     apply X.region
     iterate 3 refine Ex.pu ?_
     refine Ex.ca (zgW m hval.1 s.Value hval.2.1 hval.2.2) ?_
     refine Ex.mo ?_
     apply Ex.nil
     apply X.region
     iterate 2 refine Ex.pu ?_
     refine Ex.bs tmE [⟨_, _⟩] ?_
     refine Ex.mo ?_
     refine Ex.pn ?_
     apply X.region
     refine Ex.pu ?_
     refine Ex.pn ?_
     refine X.bk (k + 1) (hI := Imp.ax)
    ·rw [← zkP hc8, ← zoI hc9] at hrow
     apply X.region
     iterate 3 refine Ex.pu ?_
     refine Ex.ca (zco hval.1 hval.2.1 hval.2.2) ?_
     iterate 3 refine Ex.pu ?_
     refine Ex.mo ?_
     apply Ex.nil
     apply X.region
     iterate 2 refine Ex.pu ?_
     refine Ex.bs tmE [⟨_, _⟩] ?_
     refine Ex.mo ?_
     refine Ex.pn ?_
     apply X.region
     refine Ex.pu ?_
     refine Ex.pn ?_
     refine X.bk (k + 1) (hI := Imp.ax)
  ·have hkl2 : k = l.length := by omega
   subst hkl2
   apply X.exit
   apply X.sr
   iterate 2 refine Ex.pu ?_
   refine Ex.pn ?_
   refine X.ret ?_
   refine RetQ.imp (Imp.freeze (k := 13) rfl) ?_
   refine RetQ.r2 ?_ ?_
   all_goals (first | exact congrArg tmsA hV | exact congrArg (AV.int .i64) hE)
end Go.Rse
