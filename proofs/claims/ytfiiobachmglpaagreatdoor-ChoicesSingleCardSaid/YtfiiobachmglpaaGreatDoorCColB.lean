/-
  Walks: the positions of pairs.
  Walks: the list of pairs.
  Walks: the plain rule, the count.
  Walks: Rule, Count, Of.
  Walks: Of.
-/
import Derived.Test.YtfiiobachmglpaaGreatDoorCJFull1
import Derived.Test.YtfiiobachmglpaaGreatDoorCLogC
set_option linter.unusedSimpArgs false
set_option linter.unusedVariables false
namespace Go.Rse
open Go Go.Proofs
attribute [local irreducible] Pur StepA StepM Ex X Fn Imp LeV LeB FnO It YStep
def isPair (m : Mn) (l : List Sg) (i : Int) : Bool := decide (m.Pro = 2) && pairB l i
def pairK (m : Mn) (l : List Sg) : Nat -> List Int
 | 0 => []
 | k + 1 => if isPair m l (k : Int) = true then pairK m l k ++ [(k : Int)] else pairK m l k
def pairL (m : Mn) (l : List Sg) : List Int := pairK m l l.length
def pairX (m : Mn) (l : List Sg) : List (List AV) := (pairL m l).map fun i => [iv i]
theorem pairK_yes {m : Mn} {l : List Sg} {k : Nat} (h : isPair m l (k : Int) = true) : pairK m l k ++ [(k : Int)] = pairK m l (k + 1) := by
 conv => rhs; unfold pairK
 rw [if_pos h]
theorem pairK_no {m : Mn} {l : List Sg} {k : Nat} (h : isPair m l (k : Int) = false) : pairK m l k = pairK m l (k + 1) := by
 conv => rhs; unfold pairK
 rw [if_neg (by simp [h])]
theorem pairK_len (m : Mn) (l : List Sg) : ∀ k, (pairK m l k).length <= k
 | 0 => Nat.le_refl _
 | k + 1 => by
  unfold pairK
  have := pairK_len m l k
  split
  ·simp; omega
  ·omega
theorem pairK_pre {m : Mn} {l : List Sg} (k : Nat) : ∀ d, ∃ r, pairK m l (k + d) = pairK m l k ++ r
 | 0 => ⟨[], by simp⟩
 | d + 1 => by
  obtain ⟨r, hr⟩ := pairK_pre (m := m) (l := l) k d
  show ∃ r, pairK m l ((k + d) + 1) = _
  by_cases h : isPair m l ((k + d : Nat) : Int) = true
  ·rw [← pairK_yes h, hr]; exact ⟨r ++ [((k + d : Nat) : Int)], by simp⟩
  ·rw [← pairK_no (by simpa using h)]; exact ⟨r, hr⟩
theorem pairX_get {m : Mn} {l : List Sg} {k : Nat} (hk : k < l.length) (h : isPair m l (k : Int) = true) : (pairX m l)[(pairK m l k).length]? = some [iv (k : Int)] := by
 obtain ⟨r, hr⟩ := pairK_pre (m := m) (l := l) (k + 1) (l.length - (k + 1))
 rw [show k + 1 + (l.length - (k + 1)) = l.length by omega, ← pairK_yes h] at hr
 unfold pairX pairL
 rw [hr]; simp
theorem pairX_inv {m : Mn} {l : List Sg} {j : Nat} {zs : List AV} (h : (pairX m l)[j]? = some zs) : ∃ i, (pairL m l)[j]? = some i /\ zs = [iv i] := by
 rw [pairX, List.getElem?_map] at h
 cases hk : (pairL m l)[j]? with
 | none => simp [hk] at h
 | some k => simp [hk] at h; exact ⟨k, rfl, h.symm⟩
attribute [local irreducible] pairB pairK pairL
theorem C_color_pairs_1 (m : Mn) (l : List Sg) (hl : l.length <= 4000000000) : It Tryz.prog 169 [.ept (fun _ : Unit => [.sl sgE l]) () 0, .ept (fun _ : Unit => mnE m) () 0] (pairX m l) := by
 have hp0 : (pairK m l 0).length = 0 := by unfold pairK; rfl
 refine It.intro (ts := fun lY => [(0, .yv lY), (1, .ept (fun _ : Unit => [.sl sgE l]) () 0), (2, .ept (fun _ : Unit => mnE m) () 0)]) (n := 25) (by kernel_rfl) Tryz.func169 rfl Tryz.ntmps169 rfl (fun _ => rfl) (by simp) (fun g w d ds Y lY hY => ?_)
 apply X.sr
 iterate 3 refine Ex.pu ?_
 apply Ex.nil
 apply X.block
 refine X.lp (ι := Nat) (fun (k : Nat) => [(0, .yv lY), (1, .ept (fun _ : Unit => [.sl sgE l]) () 0), (2, .ept (fun _ : Unit => mnE m) () 0), (6, iv l.length), (7, iv (k : Int))]) (fun (k : Nat) => [(1000000, .yld (pairK m l k).length true)]) (fun (k : Nat) => k <= l.length) (fun (k : Nat) => l.length - k) 0 (fun k hk => ?_)
 apply X.sr
 refine Ex.pu ?_
 apply Ex.nil
 apply X.seq
 refine X.cd rfl (fun hc1 => ?_) (fun hc1 => ?_)
 ·apply X.skip
  apply X.seq
  apply X.block
  apply X.sr
  iterate 2 refine Ex.pu ?_
  apply Ex.nil
  apply X.seq
  have hcs : (decide (m.Pro = 2) = false) \/ (decide (m.Pro = 2) = true /\ pairB l (k : Int) = false) \/ (decide (m.Pro = 2) = true /\ pairB l (k : Int) = true) := by cases decide (m.Pro = 2) <;> cases pairB l (k : Int) <;> simp
  rcases hcs with hp | ⟨hp, hq⟩ | ⟨hp, hq⟩
  ·have hg3 : (decide (m.Pro = 2) == true) = false := by rw [hp]; rfl
   have hn : isPair m l (k : Int) = false := by unfold isPair; rw [hp]; rfl
   have hst := pairK_no hn
   have hst2 := congrArg List.length hst.symm
   apply X.region
   iterate 4 refine Ex.pu ?_
   iterate 3 refine Ex.gf ?_
   iterate 2 refine Ex.pu ?_
   iterate 4 refine Ex.gf ?_
   refine Ex.pu ?_
   apply Ex.nil
   refine X.cd rfl (fun hc2 => ?_) (fun hc2 => ?_)
   ·exact absurd hc2 (by decide)
   apply X.skip
   apply X.region
   iterate 2 refine Ex.pu ?_
   apply Ex.nil
   refine X.bk (k + 1)
  ·have hg3 : (decide (m.Pro = 2) == true) = true := by rw [hp]; rfl
   have hg8 : (pairB l (k : Int) == true) = false := by rw [hq]; rfl
   have hn : isPair m l (k : Int) = false := by unfold isPair; rw [hp, hq]; rfl
   have hst := pairK_no hn
   have hst2 := congrArg List.length hst.symm
   apply X.region
   iterate 4 refine Ex.pu ?_
   iterate 2 refine Ex.gp ?_
   (refine Ex.gT rfl rfl ?_ (A_call rfl rfl rfl (LeL.refl _) (C_color_pair l hl (k : Int) (by omega) (by omega))) rfl rfl ?_; iterate 1 (· first | exact hg3 | assumption | rfl | (simp_all; done) | omega))
   iterate 2 refine Ex.pu ?_
   iterate 4 refine Ex.gf ?_
   refine Ex.pu ?_
   apply Ex.nil
   refine X.cd rfl (fun hc3 => ?_) (fun hc3 => ?_)
   ·exact absurd hc3 (by decide)
   apply X.skip
   apply X.region
   iterate 2 refine Ex.pu ?_
   apply Ex.nil
   refine X.bk (k + 1)
  ·have hg3 : (decide (m.Pro = 2) == true) = true := by rw [hp]; rfl
   have hg8 : (pairB l (k : Int) == true) = true := by rw [hq]; rfl
   have hn : isPair m l (k : Int) = true := by unfold isPair; rw [hp, hq]; rfl
   have hst := pairK_yes hn
   have hst2 := congrArg List.length hst
   have hq1 := pairX_get (by omega) hn
   rw [List.length_append] at hst2
   apply X.region
   iterate 4 refine Ex.pu ?_
   iterate 2 refine Ex.gp ?_
   (refine Ex.gT rfl rfl ?_ (A_call rfl rfl rfl (LeL.refl _) (C_color_pair l hl (k : Int) (by omega) (by omega))) rfl rfl ?_; iterate 1 (· first | exact hg3 | assumption | rfl | (simp_all; done) | omega))
   iterate 2 refine Ex.pu ?_
   iterate 2 refine Ex.gp ?_
   refine Ex.yieldG hY rfl rfl rfl (fun _ => ⟨_, _, rfl, rfl, rfl, LeL.refl _, rfl, rfl, hq1, fun b => ?_⟩) (fun h => absurd (h.symm.trans hg8) (by decide))
   refine Ex.gp ?_
   refine Ex.pu ?_
   apply Ex.nil
   refine X.cd rfl (fun hc4 => ?_) (fun hc4 => ?_)
   ·subst hc4
    refine X.ret ?_
    refine ⟨.inr rfl, _, false, rfl, fun hb => by simp at hb⟩
   subst hc4
   have hst3 : (pairK m l (k + 1)).length = (pairK m l k).length + 1 := hst2.symm
   clear hst2
   apply X.skip
   apply X.region
   iterate 2 refine Ex.pu ?_
   apply Ex.nil
   refine X.bk (k + 1)
 ·have hkl : k = l.length := by omega
  subst hkl
  apply X.exit
  refine ⟨.inl rfl, _, true, rfl, fun _ => by unfold pairX pairL; rw [List.length_map]⟩
theorem C_color_pairs (m : Mn) (l : List Sg) : Fn Tryz.prog 96 [mnA m, sgsA l] (.fn 169 [.ept (fun _ : Unit => [.sl sgE l]) () 0, .ept (fun _ : Unit => mnE m) () 0]) := by
 refine Fn.go Tryz.func96 Tryz.ntmps96 (fun g w d => ?_)
 apply X.sr
 refine Ex.ba ?_
 refine Ex.bx ?_
 refine Ex.pu ?_
 apply Ex.ns
 iterate 2 refine Ex.pu ?_
 apply Ex.nil
 refine X.ret ?_
 refine RetQ.imp ((Imp.freezeBox (k := 2) rfl rfl).trans (Imp.freezeBox (k := 3) rfl rfl)) ?_
 refine RetQ.ret (.one (.tmp rfl (LeV.eq ?_)))
 all_goals (first | rfl | (simp_all; done))
end Go.Rse
namespace Go.Rse
open Go Go.Proofs
attribute [local irreducible] Pur StepA StepM Ex X Fn Imp LeV LeB FnO It YStep
theorem pairL_len (m : Mn) (l : List Sg) : (pairL m l).length <= l.length := by unfold pairL; exact pairK_len m l _
theorem take_snoc {α : Type} {a : List α} {j : Nat} {x : α} (h : a[j]? = some x) : a.take j ++ [x] = a.take (j + 1) := by
 rw [List.take_add_one, h]; rfl
attribute [local irreducible] pairB pairK pairL isPair ckD
theorem C_color_Pairs (m : Mn) (z : List Sg) (hl : z.length <= 1000) : FnO Tryz.prog 37 [mnA m, sgsA z] [] [] (.tup [.own 39, iv (ckD m z)]) [(39, .row intE (if ckD m z = 0 then pairL m z else []) 3 1)] := by
 refine FnO.intro (ts := [(0, mnA m), (1, sgsA z)]) (rv := [.tmp 4, .tmp 5]) (n := 24) (cs := []) (by kernel_rfl) Tryz.func37 rfl Tryz.ntmps37 rfl rfl (by simp) rfl rfl rfl rfl (fun g w d vh => ?_)
 apply X.sr
 refine Ex.ba ?_
 iterate 2 refine Ex.pu ?_
 apply Ex.nil
 apply X.seq
 apply X.sr
 iterate 2 refine Ex.pu ?_
 refine Ex.ca (C_dot_Check m z hl) ?_
 refine Ex.pu ?_
 apply Ex.ns
 iterate 2 refine Ex.pu ?_
 apply Ex.nil
 refine X.cd rfl (fun hc1 => ?_) (fun hc1 => ?_)
 ·have hE : [] = (if ckD m z = 0 then pairL m z else []) := by rw [if_neg hc1]
  apply X.sr
  iterate 3 refine Ex.pu ?_
  apply Ex.nil
  refine X.ret ?_
  refine RetQO.imp (Imp.mkrow intE 3 1 4 39 rfl rfl) ?_
  refine RetQO.mk (ts := [(4, .own 39), (5, iv (ckD m z))]) (.inr rfl) (Imp.au) (.many (by decide) (.cons (.tmp rfl (LeV.eq rfl)) (.cons (.tmp rfl (LeV.eq rfl)) .nil)))
 have hpl := pairL_len m z
 apply X.skip
 apply X.sr
 refine Ex.al ?_
 apply Ex.nil
 apply X.seq
 apply X.seq
 refine X.imp (Imp.mkrowB intE 3 1 7 39 27 rfl rfl) ?_
 apply X.region
 iterate 2 refine Ex.pu ?_
 refine Ex.ca (C_color_pairs m z) ?_
 apply Ex.nil
 apply X.block
 have ht0 : [] = (pairL m z).take 0 := by simp
 have htl : (pairL m z).take (pairX m z).length = (if ckD m z = 0 then pairL m z else []) := by
  rw [if_pos hc1]; unfold pairX; rw [List.length_map, List.take_length]
 refine X.range (sl := [7]) (fun j => ([.ptr 7 0 0 0], [(1000001, .hold vh []), (7, .box [.own 39] 27), (39, .row intE ((pairL m z).take j) 3 1)])) (fun j => True) 900001 900002 rfl rfl (by decide) (fun j zs hj => by obtain ⟨i, _, rfl⟩ := pairX_inv hj; rfl) (C_color_pairs_1 m z (by omega)) trivial rfl rfl (by decide) (Nat.zero_le _) (by simp) (fun j zs hj => by obtain ⟨i, _, rfl⟩ := pairX_inv hj; rfl) (fun _ => rfl) rfl rfl (fun l o us => Imp.au) (trivial) (fun j zs hj hJ l ready busy rb vs g w hb hyB => ?_) (fun hJ => ?_)
 ·obtain ⟨i, hi, rfl⟩ := pairX_inv hj
  have hst := take_snoc hi
  have hlt : ((pairL m z).take j).length <= 1000 := by simp; omega
  apply X.region
  refine Ex.pu ?_
  apply Ex.nil
  refine ⟨rfl, rfl, ?_⟩
  apply X.block
  apply X.region
  iterate 2 refine Ex.pu ?_
  refine Ex.bs intE [_] ?_
  iterate 2 refine Ex.mo ?_
  apply Ex.nil
  refine ⟨[.ptr 7 0 0 0], [(1000001, .hold vh []), (7, .box [.own 39] 27), (39, .row intE ((pairL m z).take (j + 1)) 3 1)], Imp.au, rfl, trivial⟩
 apply X.sr
 iterate 3 refine Ex.pu ?_
 apply Ex.nil
 refine X.ret ?_
 refine RetQO.mk (ts := [(4, .own 39), (5, iv (ckD m z))]) (.inr rfl) (Imp.au) (.many (by decide) (.cons (.tmp rfl (LeV.eq rfl)) (.cons (.tmp rfl (LeV.eq rfl)) .nil)))
end Go.Rse
namespace Go.Rse
open Go Go.Proofs
attribute [local irreducible] Pur StepA StepM Ex X Fn Imp LeV LeB FnO It YStep
attribute [local irreducible] pairB pairK pairL isPair ckD
def prL (m : Mn) (l : List Sg) : List Int := if ckD m l = 0 then pairL m l else []
def twos (n : Nat) : List Int := List.replicate n 2
theorem prL_len (m : Mn) (l : List Sg) : (prL m l).length <= l.length := by
 unfold prL; split
 ·exact pairL_len m l
 ·simp
def colN (m : Mn) (l : List Sg) : Int := if ckD m l = 0 then (if 6 < (prL m l).length then 0 else 2 ^ (prL m l).length) else 0
def colE (m : Mn) (l : List Sg) : Int := if ckD m l = 0 then (if 6 < (prL m l).length then 15 else 0) else ckD m l
theorem colN_0 {m : Mn} {l : List Sg} (h : ¬ckD m l = 0) : 0 = colN m l := by unfold colN; rw [if_neg h]
theorem colE_0 {m : Mn} {l : List Sg} (h : ¬ckD m l = 0) : ckD m l = colE m l := by unfold colE; rw [if_neg h]
theorem colN_1 {m : Mn} {l : List Sg} (h : ckD m l = 0) (h6 : 6 < (prL m l).length) : 0 = colN m l := by unfold colN; rw [if_pos h, if_pos h6]
theorem colE_1 {m : Mn} {l : List Sg} (h : ckD m l = 0) (h6 : 6 < (prL m l).length) : 15 = colE m l := by unfold colE; rw [if_pos h, if_pos h6]
theorem colN_2 {m : Mn} {l : List Sg} (h : ckD m l = 0) {k : Nat} (hk : k = (prL m l).length) (h6 : k <= 6) : 2 ^ k = colN m l := by unfold colN; rw [if_pos h, if_neg (by omega), hk]
theorem colE_2 {m : Mn} {l : List Sg} (h : ckD m l = 0) {k : Nat} (hk : k = (prL m l).length) (h6 : k <= 6) : 0 = colE m l := by unfold colE; rw [if_pos h, if_neg (by omega)]
theorem pow2_tab {k : Nat} (h : k <= 6) : 1 <= (2 : Int) ^ k /\ (2 : Int) ^ k <= 64 := by
 rcases k with _ | _ | _ | _ | _ | _ | _ | k <;> first | omega | (constructor <;> decide)
theorem pow2_s (k : Nat) : (2 : Int) * 2 ^ k = 2 ^ (k + 1) := by rw [Int.pow_succ]; omega
attribute [local irreducible] prL twos
end Go.Rse
namespace Go.Rse
open Go Go.Proofs
attribute [local irreducible] Pur StepA StepM Ex X Fn Imp LeV LeB FnO It YStep
attribute [local irreducible] pairB pairK pairL isPair ckD
theorem C_color_Pairs' (m : Mn) (l : List Sg) (hl : l.length <= 1000) : FnO Tryz.prog 37 [mnA m, sgsA l] [] [] (.tup [.own 39, iv (ckD m l)]) [(39, .row intE (prL m l) 3 1)] := C_color_Pairs m l hl
theorem shl_in {k : Nat} (h : k <= 6) : IntKind.i64.wrap (1 * 2 ^ (k : Int).toNat) = 1 * 2 ^ (k : Int).toNat := by
 rcases k with _ | _ | _ | _ | _ | _ | _ | k <;> first | omega | rfl
theorem pow_nt (k : Nat) : (1 : Int) * 2 ^ (k : Int).toNat = 2 ^ k := by rw [Int.one_mul]; rfl
attribute [local irreducible] prL twos
theorem C_color_Count (m : Mn) (l : List Sg) (hl : l.length <= 1000) : Fn Tryz.prog 266 [mnA m, sgsA l] (.tup [iv (colN m l), iv (colE m l)]) := by
 refine Fn.go Tryz.func266 Tryz.ntmps266 (fun g w d => ?_)
 apply X.sr
 refine Ex.ba ?_
 iterate 2 refine Ex.pu ?_
 apply Ex.ns
 iterate 2 refine Ex.pu ?_
 refine Ex.co [(39, 39)] (C_color_Pairs' m l hl) ?_
 iterate 5 refine Ex.pu ?_
 apply Ex.nil
 apply X.seq
 apply X.sr
 iterate 2 refine Ex.pu ?_
 apply Ex.nil
 refine X.cd rfl (fun hc1 => ?_) (fun hc1 => ?_)
 ·apply X.sr
  iterate 3 refine Ex.pu ?_
  apply Ex.nil
  refine X.ret ?_
  refine RetQ.imp (Imp.au (ts := [(4, iv 0), (5, iv (ckD m l))]) (hs := [])) ?_
  refine RetQ.ret (.many (by decide) (.cons (.tmp rfl (LeV.eq ?_)) (.cons (.tmp rfl (LeV.eq ?_)) .nil)))
  all_goals (first | exact congrArg (AV.int .i64) (colN_0 hc1) | exact congrArg (AV.int .i64) (colE_0 hc1) | exact congrArg (AV.int .i64) (colN_1 hc1 (by omega)) | exact congrArg (AV.int .i64) (colE_1 hc1 (by omega)) | exact congrArg (AV.int .i64) ((pow_nt _).trans (colN_2 hc1 rfl (by omega))) | exact congrArg (AV.int .i64) (colE_2 hc1 rfl (by omega)))
 apply X.skip
 apply X.seq
 apply X.sr
 iterate 3 refine Ex.pu ?_
 apply Ex.nil
 refine X.cd rfl (fun hc2 => ?_) (fun hc2 => ?_)
 ·apply X.sr
  iterate 2 refine Ex.pu ?_
  apply Ex.nil
  refine X.ret ?_
  refine RetQ.imp (Imp.au (ts := [(4, iv 0), (5, iv 15)]) (hs := [])) ?_
  refine RetQ.ret (.many (by decide) (.cons (.tmp rfl (LeV.eq ?_)) (.cons (.tmp rfl (LeV.eq ?_)) .nil)))
  all_goals (first | exact congrArg (AV.int .i64) (colN_0 hc1) | exact congrArg (AV.int .i64) (colE_0 hc1) | exact congrArg (AV.int .i64) (colN_1 hc1 (by omega)) | exact congrArg (AV.int .i64) (colE_1 hc1 (by omega)) | exact congrArg (AV.int .i64) ((pow_nt _).trans (colN_2 hc1 rfl (by omega))) | exact congrArg (AV.int .i64) (colE_2 hc1 rfl (by omega)))
 apply X.skip
 apply X.sr
 iterate 2 refine Ex.pu ?_
 refine Ex.pu (hs := P_shl rfl rfl (by omega) (by omega) (shl_in (by omega))) ?_
 iterate 2 refine Ex.pu ?_
 apply Ex.nil
 refine X.ret ?_
 refine RetQ.imp (Imp.au (ts := [(4, iv (1 * 2 ^ ((prL m l).length : Int).toNat)), (5, iv 0)]) (hs := [])) ?_
 refine RetQ.ret (.many (by decide) (.cons (.tmp rfl (LeV.eq ?_)) (.cons (.tmp rfl (LeV.eq ?_)) .nil)))
 all_goals (first | exact congrArg (AV.int .i64) (colN_0 hc1) | exact congrArg (AV.int .i64) (colE_0 hc1) | exact congrArg (AV.int .i64) (colN_1 hc1 (by omega)) | exact congrArg (AV.int .i64) (colE_1 hc1 (by omega)) | exact congrArg (AV.int .i64) ((pow_nt _).trans (colN_2 hc1 rfl (by omega))) | exact congrArg (AV.int .i64) (colE_2 hc1 rfl (by omega)))
end Go.Rse
namespace Go.Rse
open Go Go.Proofs
attribute [local irreducible] Pur StepA StepM Ex X Fn Imp LeV LeB FnO It YStep
attribute [local irreducible] pairB pairK pairL isPair ckD
theorem colE_z {m : Mn} {l : List Sg} (h : colE m l = 0) : ckD m l = 0 /\ (prL m l).length <= 6 /\ colN m l = 2 ^ (prL m l).length := by
 unfold colE at h
 split at h
 ·next h1 =>
  split at h
  ·omega
  ·next h2 => exact ⟨h1, by omega, by unfold colN; rw [if_pos h1, if_neg h2]⟩
 ·next h1 => exact absurd h h1
def bitv (K j : Nat) : Int := if j < K then 2 ^ (K - 1 - j) else 0
def dig (n : Int) (K j : Nat) : Int := if n / 2 ^ (K - 1 - j) % 2 = 0 then 1 else 2
def digP (n : Int) (K j : Nat) : List Int := (List.range j).map (dig n K)
theorem digP_snoc (n : Int) (K j : Nat) : digP n K j ++ [dig n K j] = digP n K (j + 1) := by unfold digP; rw [List.range_succ, List.map_append]; rfl
theorem digP_len (n : Int) (K j : Nat) : (digP n K j).length = j := by unfold digP; simp
theorem bitv_tab : ∀ K : Fin 7, ∀ j : Fin 7, bitv K.val j.val / 2 = bitv K.val (j.val + 1) /\ (j.val < K.val -> 1 <= bitv K.val j.val /\ bitv K.val j.val <= 64) := by decide
theorem bitv_0 : ∀ K : Fin 7, (2 : Int) ^ K.val / 2 = bitv K.val 0 := by decide
theorem bitv_s {K j : Nat} (hK : K <= 6) (hj : j <= K) : bitv K j / 2 = bitv K (j + 1) := (bitv_tab ⟨K, by omega⟩ ⟨j, by omega⟩).1
theorem bitv_b {K j : Nat} (hK : K <= 6) (hj : j < K) : 1 <= bitv K j /\ bitv K j <= 64 := (bitv_tab ⟨K, by omega⟩ ⟨j, by omega⟩).2 hj
theorem bitv_z {K j : Nat} (hj : ¬ j < K) : bitv K j = 0 := by unfold bitv; rw [if_neg hj]
theorem bitv_n {K j : Nat} (hj : j < K) : bitv K j = 2 ^ (K - 1 - j) := by unfold bitv; rw [if_pos hj]
theorem dig_and {n : Int} {K j : Nat} (h0 : 0 <= n) (h1 : n < 64) (hK : K <= 6) (hj : j < K) : dig n K j = if andI n (bitv K j) = 0 then 1 else 2 := by
 unfold dig; rw [bitv_n hj]
 have h := andI_zero h0 h1 (k := K - 1 - j) (by omega)
 by_cases e : andI n (2 ^ (K - 1 - j)) = 0
 ·rw [if_pos e, if_pos (h.1 e)]
 ·rw [if_neg e, if_neg (fun x => e (h.2 x))]
def cfE (m : Mn) (l : List Sg) (n : Int) : Int := if colE m l = 0 then (if n < 0 \/ colN m l <= n then 2 else 0) else colE m l
def cfV (m : Mn) (l : List Sg) (n : Int) : List Int := if colE m l = 0 then (if n < 0 \/ colN m l <= n then [] else digP n (prL m l).length (prL m l).length) else []
theorem cfE_0 {m : Mn} {l : List Sg} {n : Int} (h : ¬ colE m l = 0) : colE m l = cfE m l n := by unfold cfE; rw [if_neg h]
theorem cfV_0 {m : Mn} {l : List Sg} {n : Int} (h : ¬ colE m l = 0) : [] = cfV m l n := by unfold cfV; rw [if_neg h]
theorem cfE_1 {m : Mn} {l : List Sg} {n : Int} (h : colE m l = 0) (h2 : n < 0 \/ colN m l <= n) : 2 = cfE m l n := by unfold cfE; rw [if_pos h, if_pos h2]
theorem cfV_1 {m : Mn} {l : List Sg} {n : Int} (h : colE m l = 0) (h2 : n < 0 \/ colN m l <= n) : [] = cfV m l n := by unfold cfV; rw [if_pos h, if_pos h2]
theorem cfE_2 {m : Mn} {l : List Sg} {n : Int} (h : colE m l = 0) (h2 : ¬ (n < 0 \/ colN m l <= n)) : 0 = cfE m l n := by unfold cfE; rw [if_pos h, if_neg h2]
theorem cfV_2 {m : Mn} {l : List Sg} {n : Int} (h : colE m l = 0) (h2 : ¬ (n < 0 \/ colN m l <= n)) : digP n (prL m l).length (prL m l).length = cfV m l n := by unfold cfV; rw [if_pos h, if_neg h2]
attribute [local irreducible] prL colN colE bitv dig digP andI
theorem C_color_Of (m : Mn) (l : List Sg) (n : Int) (hl : l.length <= 1000) : Fn Tryz.prog 234 [mnA m, sgsA l, iv n] (.tup [intsA (cfV m l n), iv (cfE m l n)]) := by
 refine Fn.go Tryz.func234 Tryz.ntmps234 (fun g w d => ?_)
 apply X.sr
 refine Ex.ba ?_
 iterate 2 refine Ex.pu ?_
 apply Ex.ns
 iterate 2 refine Ex.pu ?_
 refine Ex.ca (C_color_Count m l hl) ?_
 iterate 5 refine Ex.pu ?_
 apply Ex.nil
 apply X.seq
 apply X.sr
 iterate 2 refine Ex.pu ?_
 apply Ex.nil
 refine X.cd rfl (fun hc1 => ?_) (fun hc1 => ?_)
 ·apply X.sr
  iterate 3 refine Ex.pu ?_
  apply Ex.nil
  refine X.ret ?_
  refine RetQ.imp (Imp.au (ts := [(6, intsA []), (7, iv (colE m l))]) (hs := [])) ?_
  refine RetQ.ret (.many (by decide) (.cons (.tmp rfl (LeV.eq ?_)) (.cons (.tmp rfl (LeV.eq ?_)) .nil)))
  all_goals (first | exact congrArg intsA (cfV_0 hc1) | exact congrArg (AV.int .i64) (cfE_0 hc1) | exact congrArg intsA (cfV_1 hc1 (by omega)) | exact congrArg (AV.int .i64) (cfE_1 hc1 (by omega)) | exact congrArg intsA (cfV_2 hc1 (by omega)) | exact congrArg (AV.int .i64) (cfE_2 hc1 (by omega)))
 apply X.skip
 apply X.seq
 apply X.sr
 iterate 2 refine Ex.pu ?_
 refine ExF.at 2 ?_
 refine ExF.pu ?_
 iterate 3 refine ExF.gi ?_
 refine ExF.done ?_
 refine Ex.pu ?_
 apply Ex.nil
 refine X.cd rfl (fun hc2 => ?_) (fun hc2 => ?_)
 ·apply X.sr
  iterate 2 refine Ex.pu ?_
  apply Ex.nil
  refine X.ret ?_
  refine RetQ.imp (Imp.au (ts := [(6, intsA []), (7, iv 2)]) (hs := [])) ?_
  refine RetQ.ret (.many (by decide) (.cons (.tmp rfl (LeV.eq ?_)) (.cons (.tmp rfl (LeV.eq ?_)) .nil)))
  all_goals (first | exact congrArg intsA (cfV_0 hc1) | exact congrArg (AV.int .i64) (cfE_0 hc1) | exact congrArg intsA (cfV_1 hc1 (by omega)) | exact congrArg (AV.int .i64) (cfE_1 hc1 (by omega)) | exact congrArg intsA (cfV_2 hc1 (by omega)) | exact congrArg (AV.int .i64) (cfE_2 hc1 (by omega)))
 have hz := colE_z hc1
 have hpb := pow2_tab hz.2.1
 have hb0 := bitv_0 ⟨(prL m l).length, by omega⟩
 have he0 : [] = digP n (prL m l).length 0 := by unfold digP; rfl
 have hk6 := hz.2.1
 have hcn := hz.2.2
 rw [← hcn] at hb0 hpb
 apply X.skip
 apply X.sr
 refine Ex.pu ?_
 apply Ex.nil
 apply X.seq
 apply X.seq
 refine X.imp (Imp.mkrow intE 3 1 10 10 rfl rfl) ?_
 apply X.region
 refine Ex.pu ?_
 refine Ex.pu (hs := P_shr1 rfl rfl) ?_
 refine Ex.pu ?_
 apply Ex.nil
 apply X.block
 refine X.lp (ι := Nat) (fun (k : Nat) => [(2, iv n), (10, .own 10), (11, iv (bitv (prL m l).length k))]) (fun (k : Nat) => [(10, .row intE (digP n (prL m l).length k) 3 1)]) (fun (k : Nat) => k <= (prL m l).length) (fun (k : Nat) => (prL m l).length - k) 0 (fun k hk => ?_)
 apply X.seq
 apply X.sr
 iterate 2 refine Ex.pu ?_
 apply Ex.nil
 refine X.cd rfl (fun hc3 => ?_) (fun hc3 => ?_)
 ·have hkl : k < (prL m l).length := by
   apply Classical.byContradiction; intro hn
   rw [bitv_z hn] at hc3; omega
  have hlen := digP_len n (prL m l).length k
  have hbs := bitv_s (K := (prL m l).length) (j := k) hk6 (by omega)
  have hda := dig_and (n := n) (by omega) (by omega) hk6 hkl
  have hst := digP_snoc n (prL m l).length k
  apply X.skip
  apply X.seq
  apply X.block
  apply X.sr
  iterate 2 refine Ex.pu ?_
  refine Ex.pu (hs := P_andI rfl rfl) ?_
  refine Ex.pu ?_
  apply Ex.nil
  refine X.cd rfl (fun hc4 => ?_) (fun hc4 => ?_)
  ·rw [if_pos hc4] at hda; rw [hda] at hst
   apply X.region
   refine Ex.pu ?_
   refine Ex.bs intE [_] ?_
   refine Ex.mo ?_
   refine Ex.pu ?_
   apply Ex.nil
   apply X.region
   refine Ex.pu ?_
   refine Ex.pu (hs := P_shr1 rfl rfl) ?_
   refine Ex.pu ?_
   apply Ex.nil
   refine X.bk (k + 1)
  ·rw [if_neg hc4] at hda; rw [hda] at hst
   apply X.region
   refine Ex.pu ?_
   refine Ex.bs intE [_] ?_
   refine Ex.mo ?_
   refine Ex.pu ?_
   apply Ex.nil
   apply X.region
   refine Ex.pu ?_
   refine Ex.pu (hs := P_shr1 rfl rfl) ?_
   refine Ex.pu ?_
   apply Ex.nil
   refine X.bk (k + 1)
 ·have hkl : k = (prL m l).length := by
   apply Classical.byContradiction; intro hn
   have hbb := bitv_b (K := (prL m l).length) (j := k) hk6 (by omega)
   omega
  subst hkl
  apply X.exit
  apply X.sr
  iterate 3 refine Ex.pu ?_
  apply Ex.nil
  refine X.ret ?_
  refine RetQ.imp (Imp.freeze (k := 10) rfl) ?_
  refine RetQ.ret (.many (by decide) (.cons (.tmp rfl (LeV.eq ?_)) (.cons (.tmp rfl (LeV.eq ?_)) .nil)))
  all_goals (first | exact congrArg intsA (cfV_0 hc1) | exact congrArg (AV.int .i64) (cfE_0 hc1) | exact congrArg intsA (cfV_1 hc1 (by omega)) | exact congrArg (AV.int .i64) (cfE_1 hc1 (by omega)) | exact congrArg intsA (cfV_2 hc1 (by omega)) | exact congrArg (AV.int .i64) (cfE_2 hc1 (by omega)))
end Go.Rse
