/-
  Walks: the list of pairs.
-/
import Derived.Test.YteecbmgddacioaaColor4
namespace Go.Rse
open Go Go.Proofs
set_option linter.unusedVariables false
set_option linter.unusedSimpArgs false
attribute [local irreducible] Pur StepA StepM Ex X ExG Fn Imp LeV LeB FnO It YStep
theorem pairL_len (m : Mn) (l : List Sg) : (pairL m l).length ≤ l.length := by unfold pairL; exact pairK_len m l _
theorem take_snoc {α : Type} {a : List α} {j : Nat} {x : α} (h : a[j]? = some x) : a.take j ++ [x] = a.take (j + 1) := by
  rw [List.take_add_one, h]; rfl
theorem isPair_yes {m : Mn} {l : List Sg} {k : Int} (h : m.p 4 = 2 ∧ pairB l k = true) : isPair m l k = true := by
  have e : m.p 4 = m.Pro := rfl
  rw [e] at h; unfold isPair; rw [decide_eq_true h.1, h.2]; rfl
theorem isPair_no {m : Mn} {l : List Sg} {k : Int} (h : ¬ m.p 4 = 2 ∨ pairB l k = false) : isPair m l k = false := by
  have e : m.p 4 = m.Pro := rfl
  rw [e] at h; unfold isPair
  rcases h with h | h
  · rw [decide_eq_false h]; rfl
  · rw [h]; simp
attribute [local irreducible] pairB pairK pairL isPair ckD
theorem C_color_Pairs (m : Mn) (z : List Sg) (hl : z.length ≤ 1000) : FnO Try.prog 68 [mnA m, sgsA z] [] [] (.tup [.own 39, iv (ckD m z)]) [(39, .row intE (if ckD m z = 0 then pairL m z else []) 3 1)] := by
  refine FnO.intro (ts := [(0, mnA m), (1, sgsA z)]) (rv := [.tmp 4, .tmp 5]) (n := 24) (cs := []) (by kernel_rfl) Try.func68 rfl Try.ntmps68 rfl rfl (by simp) rfl rfl rfl rfl (fun g w d vh => ?_)
  refine X.seq ?_
  refine X.region ?_
  refine Ex.ba ?_
  iterate 2 refine Ex.pu ?_
  refine Ex.nil ?_
  refine X.seq ?_
  refine X.seq ?_
  refine X.region ?_
  iterate 2 refine Ex.pu ?_
  refine Ex.ca (C_dot_Check m z hl) ?_
  refine Ex.pu ?_
  refine Ex.nil ?_
  refine X.seq ?_
  refine X.region ?_
  iterate 2 refine Ex.pu ?_
  refine Ex.nil ?_
  refine X.cd rfl (fun hc1 => ?_) (fun hc1 => ?_)
  · have hE : [] = (if ckD m z = 0 then pairL m z else []) := by rw [if_neg hc1]
    refine X.seq ?_
    refine X.region ?_
    iterate 3 refine Ex.pu ?_
    refine Ex.nil ?_
    refine X.ret ?_
    refine RetQO.imp (Imp.mkrow intE 3 1 4 39 rfl rfl) ?_
    refine RetQO.mk (ts := [(4, .own 39), (5, iv (ckD m z))]) (.inr rfl) (Imp.au) (.many (by decide) (.cons (.tmp rfl (LeV.eq rfl)) (.cons (.tmp rfl (LeV.eq rfl)) .nil)))
  have hpl := pairL_len m z
  refine X.skip ?_
  refine X.seq ?_
  refine X.region ?_
  refine Ex.al ?_
  refine Ex.nil ?_
  refine X.seq ?_
  refine X.seq ?_
  refine X.imp (Imp.mkrowB intE 3 1 7 39 29 rfl rfl) ?_
  refine X.region ?_
  iterate 2 refine Ex.pu ?_
  refine Ex.ca (C_color_pairs m z) ?_
  refine Ex.nil ?_
  refine X.block ?_
  have ht0 : [] = (pairL m z).take 0 := by simp
  have htl : (pairL m z).take (pairX m z).length = (if ckD m z = 0 then pairL m z else []) := by
    rw [if_pos hc1]; unfold pairX; rw [List.length_map, List.take_length]
  refine X.range (sl := [7]) (fun j => ([.ptr 7 0 0 0], [(1000001, .hold vh []), (7, .box [.own 39] 29), (39, .row intE ((pairL m z).take j) 3 1)])) (fun j => True) 900001 900002 rfl rfl (by decide) (fun j zs hj => by obtain ⟨i, _, rfl⟩ := pairX_inv hj; rfl) (C_color_pairs_1 m z (by omega)) trivial rfl rfl (by decide) (Nat.zero_le _) (by simp) (fun j zs hj => by obtain ⟨i, _, rfl⟩ := pairX_inv hj; rfl) (fun _ => rfl) rfl rfl (fun l o us => Imp.au) (trivial) (fun j zs hj hJ l ready busy rb vs g w hb hyB => ?_) (fun hJ => ?_)
  · obtain ⟨i, hi, rfl⟩ := pairX_inv hj
    have hst := take_snoc hi
    have hlt : ((pairL m z).take j).length ≤ 1000 := by simp; omega
    refine X.region ?_
    refine Ex.pu ?_
    refine Ex.nil ?_
    refine ⟨rfl, rfl, ?_⟩
    refine X.block ?_
    refine X.region ?_
    iterate 2 refine Ex.pu ?_
    refine Ex.bs intE [_] ?_
    iterate 2 refine Ex.mo ?_
    refine Ex.nil ?_
    refine ⟨[.ptr 7 0 0 0], [(1000001, .hold vh []), (7, .box [.own 39] 29), (39, .row intE ((pairL m z).take (j + 1)) 3 1)], Imp.au, rfl, trivial⟩
  refine X.seq ?_
  refine X.region ?_
  iterate 3 refine Ex.pu ?_
  refine Ex.nil ?_
  refine X.ret ?_
  refine RetQO.mk (ts := [(4, .own 39), (5, iv (ckD m z))]) (.inr rfl) (Imp.au) (.many (by decide) (.cons (.tmp rfl (LeV.eq rfl)) (.cons (.tmp rfl (LeV.eq rfl)) .nil)))
theorem C_tactusref11_Pairs (m : Mn) (l : List Sg) (hl : l.length ≤ 1000) : Fn Try.prog 87 [mnA m, sgsA l] (.tup [intsA (if ckD m l = 0 then pairL m l else []), iv (ckD m l)]) := by
  have hq0 : [] = pairK m l 0 := by unfold pairK; rfl
  have hqL : pairK m l l.length = pairL m l := by unfold pairL; rfl
  refine Fn.go Try.func87 Try.ntmps87 (fun g w d => ?_)
  refine X.seq ?_
  refine X.region ?_
  refine Ex.ba ?_
  iterate 2 refine Ex.pu ?_
  refine Ex.nil ?_
  refine X.seq ?_
  refine X.region ?_
  iterate 2 refine Ex.pu ?_
  refine Ex.ca (C_tactusref09_Check' m l hl) ?_
  refine Ex.pu ?_
  refine Ex.nil ?_
  refine X.seq ?_
  refine X.seq ?_
  refine X.region ?_
  iterate 2 refine Ex.pu ?_
  refine Ex.nil ?_
  refine X.cd rfl (fun hc1 => ?_) (fun hc1 => ?_)
  · refine X.seq ?_
    refine X.region ?_
    iterate 3 refine Ex.pu ?_
    refine Ex.nil ?_
    refine X.ret ?_
    refine RetQ.imp (Imp.au (ts := [(4, intsA []), (5, iv (ckD m l))]) (hs := [])) ?_
    refine RetQ.ret (.many (by decide) (.cons (.tmp rfl (LeV.eq ?_)) (.cons (.tmp rfl (LeV.eq ?_)) .nil)))
    all_goals (first | (rw [if_neg hc1]; done) | rfl | (rw [if_pos hc1, ← hqL]; rfl) | (rw [if_pos hc1, ← hqL]; done) | (rw [hc1]; done) | (rw [hc1]; rfl))
  refine X.skip ?_
  refine X.seq ?_
  refine X.region ?_
  refine Ex.pu ?_
  refine Ex.nil ?_
  refine X.seq ?_
  refine X.seq ?_
  refine X.imp (Imp.mkrow intE 3 1 7 7 rfl rfl) ?_
  refine X.region ?_
  refine Ex.pu ?_
  refine Ex.nil ?_
  refine X.block ?_
  refine X.lp (ι := Nat) (fun (k : Nat) => [(1, sgsA l), (2, .ptr 2 0 0 0), (7, .own 7), (8, iv (k : Int))]) (fun (k : Nat) => [(2, .box (mnE m) 23), (7, .row intE (pairK m l k) 3 1)]) (fun (k : Nat) => k ≤ l.length) (fun (k : Nat) => l.length - k) 0 (fun k hk => ?_)
  refine X.seq ?_
  refine X.seq ?_
  refine X.region ?_
  iterate 4 refine Ex.pu ?_
  refine Ex.nil ?_
  refine X.cd rfl (fun hc2 => ?_) (fun hc2 => ?_)
  · have hlen := pairK_len m l k
    refine X.skip ?_
    refine X.seq ?_
    refine X.block ?_
    refine X.seq ?_
    refine X.region ?_
    iterate 3 refine Ex.pu ?_
    refine Ex.ca (C_tactusref11_pair m l (by omega) (k : Int) (by omega) (by omega)) ?_
    refine Ex.nil ?_
    refine X.cd rfl (fun hc3 => ?_) (fun hc3 => ?_)
    · have hrow := pairK_yes (isPair_yes hc3)
      refine X.region ?_
      iterate 2 refine Ex.pu ?_
      refine Ex.bs intE [_] ?_
      refine Ex.mo ?_
      refine Ex.pu ?_
      refine Ex.nil ?_
      refine X.region ?_
      iterate 3 refine Ex.pu ?_
      refine Ex.nil ?_
      refine X.bk (k + 1)
    · have hrow := pairK_no (isPair_no hc3)
      refine X.skip ?_
      refine X.region ?_
      iterate 3 refine Ex.pu ?_
      refine Ex.nil ?_
      refine X.bk (k + 1)
  · have hkl : k = l.length := by omega
    subst hkl
    refine X.exit ?_
    refine X.seq ?_
    refine X.region ?_
    iterate 3 refine Ex.pu ?_
    refine Ex.nil ?_
    refine X.ret ?_
    refine RetQ.imp (Imp.freeze (k := 7) rfl) ?_
    refine RetQ.ret (.many (by decide) (.cons (.tmp rfl (LeV.eq ?_)) (.cons (.tmp rfl (LeV.eq ?_)) .nil)))
    all_goals (first | (rw [if_neg hc1]; done) | rfl | (rw [if_pos hc1, ← hqL]; rfl) | (rw [if_pos hc1, ← hqL]; done) | (rw [hc1]; done) | (rw [hc1]; rfl))
end Go.Rse
