/-
  Walks: lists of readings compared; the chapter's examples on choices.
-/
import Derived.Test.YtfiiobachmglpaaGreatDoorCJCho9
import Derived.Test.YtfiiobachmglpaaGreatDoorCJItem2
import Derived.Test.YtfiiobachmglpaaGreatDoorCIteA
import Derived.Test.YtfiiobachmglpaaGreatDoorCJCho0
set_option linter.unusedSimpArgs false
set_option linter.unusedVariables false
namespace Go.Rse
open Go Go.Proofs Go.RowKit
attribute [local irreducible] Pur StepA StepM Ex X Fn Imp LeV LeB FnO It YStep FnW FnOW
structure Rb (r : Rdg) : Prop where
 d : r.Dots.length <= 100000
 m : r.Minor.length <= 100000
 c : r.Choices.length <= 100000
 u : r.Durs.length <= 100000
theorem cmL_PB {m : Mn} : ∀ (L : List Int) (c : Nat) (z : List Par), z.length <= 4096 -> (∀ p ∈ z, PB 1000 0 c p) -> ∀ p ∈ (cmL m L z).1, PB 1000 0 (c + L.length * 2002) p
 | [], c, z, _, h => by simpa [cmL] using h
 | k :: r, c, z, h1, h2 => by
  simp only [cmL]
  split
  ·have := alv_PB (m := m) (k := k) h1 h2
   intro p hp
   have := cmL_PB r _ _ this.1 this.2 p hp
   refine ⟨this.i, this.n, ?_⟩
   have h3 := this.d
   simp only [List.length_cons]; omega
  ·simp
theorem cmV_b {m : Mn} {l : List Sg} (hl : l.length <= 1000) {n : Int} : ∀ r ∈ cmV m l n, Rb r := by
 intro r hr
 unfold cmV cmR at hr
 split at hr
 ·obtain ⟨p, hp, rfl⟩ := List.mem_map.1 hr
  have hB := cmL_PB (m := m) (perfL m) 0 _ (by simp) (cm_PB m hl n) p hp
  have h4 := pfl_len m
  have hd : (iofD m l n).length <= 1000 := by
   by_cases he : iofE m l n = 0
   ·rw [iofD_lk he]; have := mnsD_le m l; omega
   ·unfold iofD; rw [if_neg he]; simp
  have hm : (iofM m l n).length <= 1000 := by
   by_cases he : iofE m l n = 0
   ·rw [iofM_lk he]; have := prL_len m l; omega
   ·unfold iofM; rw [if_neg he]; simp
  refine ⟨by show (iofD m l n).length <= _; omega, by show (iofM m l n).length <= _; omega, ?_, ?_⟩
  ·show p.made.length <= _; have := hB.d; omega
  ·show (p.items.map _).length <= _; rw [List.length_map]; have := hB.i; omega
 ·simp at hr
theorem aqN_b {m : Mn} {l : List Sg} (hl : l.length <= 1000) : ∀ n, ∀ r ∈ aqN m l n, Rb r
 | 0 => by simp [aqN]
 | n + 1 => fun r hr => by
  rcases List.mem_append.1 (show r ∈ aqN m l n ++ cmV m l n from hr) with h | h
  ·exact aqN_b hl n r h
  ·exact cmV_b hl r h
theorem aqV_b {m : Mn} {l : List Sg} (hl : l.length <= 1000) : ∀ r ∈ aqV m l, Rb r := by
 unfold aqV; split
 ·exact aqN_b hl _
 ·simp
abbrev ntQS (v : Int) : Sg := ⟨1, v, 0, 0, false, 0, false, false, ⟨0, 0, 0, 0⟩, false, 0, 0, 0, 0⟩
def rdM (M D : List Int) : Rdg := ⟨[], [], M, D.map fun x => ⟨x, 1⟩⟩
theorem nt_snoc {l : List Int} {n : Nat} {x : Int} (h : l[n]? = some x) : (l.take n).map ntQS ++ [ntQS x] = (l.take (n + 1)).map ntQS := by
 rw [List.take_add_one, h]; simp
theorem tm_snoc {l : List Int} {n : Nat} {x : Int} (h : l[n]? = some x) : (l.take n).map (fun x => (⟨x, 1⟩ : Tm)) ++ [⟨x, 1⟩] = (l.take (n + 1)).map (fun x => (⟨x, 1⟩ : Tm)) := by
 rw [List.take_add_one, h]; simp
def e18n : List Sg := [ntQS 3, ntQS 4, ntQS 3]
def e18r : List Rdg := [rdM [0, 1, 0] [4, 2, 6], rdM [0, 2, 0] [6, 2, 4]]
def allB (m : Mn) (l : List Sg) (R : List Rdg) : Bool := decide (aqE m l = 0) && decide (aqV m l = R)
theorem allB_ok {m : Mn} {l : List Sg} {R : List Rdg} (h : allB m l R = true) : aqE m l = 0 /\ aqV m l = R := by
 unfold allB at h; simpa using h
theorem e18_all : allB mCirc e18n e18r = true := by kernel_rfl
theorem e18_is : (isV mCirc e18n (rdM [0, 2, 0] [6, 2, 4]) && decide (ckD mCirc e18n = 0)) = true := by kernel_rfl
attribute [local irreducible] aqV aqE isV ckD
theorem C_tactuskit_SameReadings (a b : List Rdg) (hl : a.length <= 4000000000) (ha : ∀ r ∈ a, Rb r) (hb : ∀ r ∈ b, Rb r) : Fn Tryz.prog 48 [.sl rdgE a, .sl rdgE b] (.bool (decide (a = b))) := by
 refine Fn.go Tryz.func48 Tryz.ntmps48 (fun g w d => ?_)
 apply X.sr
 refine Ex.pu ?_
 apply Ex.nil
 apply X.seq
 apply X.sr
 iterate 5 refine Ex.pu ?_
 apply Ex.nil
 refine X.cd rfl (fun hc1 => ?_) (fun hc1 => ?_)
 ·have hD : decide (a = b) = false := by rw [decide_eq_false_iff_not]; intro h; subst h; exact hc1 rfl
  apply X.sr
  refine Ex.pu ?_
  apply Ex.nil
  refine X.ret ?_
  refine RetQ.ret (.one (.tmp rfl (LeV.eq ?_)))
  all_goals (rw [hD])
 have hlen : a.length = b.length := by omega
 apply X.skip
 apply X.seq
 apply X.sr
 refine Ex.pu ?_
 apply Ex.nil
 apply X.block
 refine X.lp (ι := Nat) (fun (k : Nat) => [(0, .sl rdgE a), (1, .sl rdgE b), (5, iv (k : Int))]) (fun (k : Nat) => []) (fun (k : Nat) => k <= a.length /\ a.take k = b.take k) (fun (k : Nat) => a.length - k) 0 (fun k hk => ?_) (hJ := by
  exact ⟨by omega, by simp⟩)
 obtain ⟨hk1, hk2⟩ := hk
 apply X.seq
 apply X.sr
 iterate 4 refine Ex.pu ?_
 apply Ex.nil
 refine X.cd rfl (fun hc2 => ?_) (fun hc2 => ?_)
 ·obtain ⟨x, hx⟩ : ∃ x, a[k]? = some x := ⟨_, List.getElem?_eq_getElem (by omega)⟩
  have hx2 : a[(k : Int).toNat]? = some x := by simpa using hx
  obtain ⟨y, hy⟩ : ∃ y, b[k]? = some y := ⟨_, List.getElem?_eq_getElem (by omega)⟩
  have hy2 : b[(k : Int).toNat]? = some y := by simpa using hy
  have hxb := ha x (List.mem_of_getElem? hx)
  apply X.skip
  apply X.seq
  apply X.block
  apply X.seq
  refine X.dw [17,18,19,20,21,22,23,24,25,26] [0,0,3,7,0,0,48,112,255,511] mo ?_
  iterate 8 refine ChM.pu ?_
  refine ChM.ca (C_tactuskit_SameReading x y (by have := hxb.d; omega) (by have := hxb.m; omega) (by have := hxb.c; omega) (by have := hxb.u; omega)) ?_
  refine ChM.pu ?_
  refine ChM.tl ?_
  apply Ex.nil
  refine X.cd rfl (fun hc3 => ?_) (fun hc3 => ?_)
  ·have hD : decide (a = b) = false := by rw [decide_eq_false_iff_not]; intro h; subst h; rw [hx] at hy; injection hy with hy; exact (by simpa using hc3 : ¬ x = y) hy
   apply X.sr
   refine Ex.pu ?_
   apply Ex.nil
   refine X.ret ?_
   refine RetQ.ret (.one (.tmp rfl (LeV.eq ?_)))
   all_goals (rw [hD])
  apply X.skip
  apply X.region
  iterate 3 refine Ex.pu ?_
  apply Ex.nil
  refine X.bk (k + 1) (hJ := by
   exact ⟨by omega, by rw [← take_snocG hx, ← take_snocG hy, hk2, (by simpa using hc3 : x = y)]⟩)
 ·have hD : decide (a = b) = true := by
   have h1 : k = a.length := by omega
   rw [decide_eq_true_iff]; subst h1; rw [List.take_length, hlen, List.take_length] at hk2; exact hk2
  apply X.exit
  apply X.sr
  refine Ex.pu ?_
  apply Ex.nil
  refine X.ret ?_
  refine RetQ.ret (.one (.tmp rfl (LeV.eq ?_)))
  all_goals (rw [hD])
theorem C_tactuslaw18_circle  : Fn Tryz.prog 63 [] (mnA mCirc) := by
 refine Fn.go Tryz.func63 Tryz.ntmps63 (fun g w d => ?_)
 apply X.sr
 refine Ex.al ?_
 apply Ex.ns
 refine Ex.pu ?_
 refine Ex.mo ?_
 apply Ex.nil
 refine X.ret ?_
 refine RetQ.ret (.one (.cellA rfl rfl rfl rfl ty23 (LeV.eq ?_)))
 all_goals (first | rfl | (simp_all; done))
theorem C_tactuslaw18_half  : Fn Tryz.prog 50 [] (mnA ⟨2, 2, 2, 2⟩) := by
 refine Fn.go Tryz.func50 Tryz.ntmps50 (fun g w d => ?_)
 apply X.sr
 refine Ex.al ?_
 apply Ex.ns
 refine Ex.pu ?_
 refine Ex.mo ?_
 apply Ex.nil
 refine X.ret ?_
 refine RetQ.ret (.one (.cellA rfl rfl rfl rfl ty23 (LeV.eq ?_)))
 all_goals (first | rfl | (simp_all; done))
theorem C_tactuslaw18_notes (l : List Int) (hl : l.length <= 1000) : Fn Tryz.prog 61 [intsA l] (sgsA (l.map ntQS)) := by
 have hz0 : [] = (l.take 0).map ntQS := by simp
 refine Fn.go Tryz.func61 Tryz.ntmps61 (fun g w d => ?_)
 apply X.sr
 refine Ex.pu ?_
 apply Ex.ns
 refine Ex.pu ?_
 apply Ex.nil
 apply X.seq
 apply X.seq
 refine X.imp (Imp.mkrow sgE 67 17 3 30 rfl rfl) ?_
 apply X.region
 refine Ex.pu ?_
 apply Ex.nil
 apply X.block
 refine X.lp (ι := Nat) (fun (n : Nat) => [(0, intsA l), (3, .own 30), (4, iv (n : Int))]) (fun (n : Nat) => [(30, .row sgE ((l.take n).map ntQS) 67 17)]) (fun (n : Nat) => n <= l.length) (fun (n : Nat) => l.length - n) 0 (fun n hk => ?_) (h0 := by
  exact Imp.ax)
 apply X.seq
 apply X.sr
 iterate 4 refine Ex.pu ?_
 apply Ex.nil
 refine X.cd rfl (fun hc1 => ?_) (fun hc1 => ?_)
 ·obtain ⟨x, hx⟩ : ∃ x, l[n]? = some x := ⟨_, List.getElem?_eq_getElem (by omega)⟩
  have hx2 : l[(n : Int).toNat]? = some x := by simpa using hx
  have hst := nt_snoc hx
  have hlt : ((l.take n).map ntQS).length <= 1000 := by rw [List.length_map, List.length_take]; omega
  apply X.skip
  apply X.seq
  apply X.block
  apply X.region
  iterate 6 refine Ex.pu ?_
  refine Ex.bs sgE [ntQS x] ?_
  refine Ex.mo ?_
  refine Ex.pu ?_
  apply Ex.nil
  apply X.region
  iterate 3 refine Ex.pu ?_
  apply Ex.nil
  refine X.bk (n + 1) (hI := Imp.ax)
 ·obtain rfl : n = l.length := by omega
  have hV : (l.take l.length).map ntQS = l.map ntQS := by rw [List.take_length]
  apply X.exit
  apply X.sr
  iterate 2 refine Ex.pu ?_
  apply Ex.nil
  refine X.ret ?_
  refine RetQ.imp (Imp.freeze (k := 30) rfl) ?_
  refine RetQ.ret (.one (.tmp rfl (LeV.eq ?_)))
  all_goals (exact congrArg (fun z => sgsA z) hV)
set_option maxHeartbeats 4000000 in
theorem C_tactuslaw18_reading (M D : List Int) (hl : D.length <= 1000) : Fn Tryz.prog 62 [intsA M, intsA D] (rdgA (rdM M D)) := by
 have hz0 : [] = (D.take 0).map (fun x => (⟨x, 1⟩ : Tm)) := by simp
 refine Fn.go Tryz.func62 Tryz.ntmps62 (fun g w d => ?_)
 apply X.sr
 refine Ex.al ?_
 apply Ex.ns
 iterate 2 refine Ex.pu ?_
 refine Ex.al ?_
 refine Ex.mo ?_
 apply Ex.nil
 apply X.seq
 apply X.seq
 refine X.imp (st' := ⟨[(1, intsA D), (4, .ptr 4 0 0 0), (5, .ptr 5 0 0 0)], [(4, .box [.nils, .nils, .nils, .nils] 41), (5, .box [.nils, .nils, intsA M, .own 40] 41), (40, .row tmE [] 60 2)]⟩) ((Imp.mkrowC tmE 60 2 5 40 3 41 _ [.nils, .nils, intsA M, .own 40] rfl rfl rfl rfl).trans Imp.au) ?_
 apply X.region
 refine Ex.pu ?_
 apply Ex.nil
 apply X.block
 refine X.lp (ι := Nat) (fun (n : Nat) => [(1, intsA D), (4, .ptr 4 0 0 0), (5, .ptr 5 0 0 0), (6, iv (n : Int))]) (fun (n : Nat) => [(4, .box [.nils, .nils, .nils, .nils] 41), (5, .box [.nils, .nils, intsA M, .own 40] 41), (40, .row tmE ((D.take n).map (fun x => (⟨x, 1⟩ : Tm))) 60 2)]) (fun (n : Nat) => n <= D.length) (fun (n : Nat) => D.length - n) 0 (fun n hk => ?_) (h0 := by
  exact Imp.ax)
 apply X.seq
 apply X.sr
 iterate 4 refine Ex.pu ?_
 apply Ex.nil
 refine X.cd rfl (fun hc1 => ?_) (fun hc1 => ?_)
 ·obtain ⟨x, hx⟩ : ∃ x, D[n]? = some x := ⟨_, List.getElem?_eq_getElem (by omega)⟩
  have hx2 : D[(n : Int).toNat]? = some x := by simpa using hx
  have hst := tm_snoc hx
  have hlt : ((D.take n).map (fun x => (⟨x, 1⟩ : Tm))).length <= 1000 := by rw [List.length_map, List.length_take]; omega
  apply X.skip
  apply X.seq
  apply X.block
  refine X.drawQ [⟨0, 15, .ptr 5 0 0 (0 + 3), []⟩, ⟨2, 17, intsA D, []⟩, ⟨3, 18, iv (n : Int), []⟩, ⟨4, 19, .ept intE x 0, [3, 2]⟩, ⟨5, 20, iv x, [3, 2, 4]⟩, ⟨6, 21, tmA ⟨x, 1⟩, [3, 2, 4, 5]⟩, ⟨7, 22, tmsA [⟨x, 1⟩], [3, 2, 4, 5, 6]⟩, ⟨9, 24, .ptr 5 0 0 (0 + 3), [8, 7, 6, 5, 4, 3, 2, 1, 0]⟩] [(1, [0]), (8, [3, 2, 4, 5, 6, 0, 7, 1]), (10, [7, 6, 5, 4, 3, 2, 1, 0, 8, 9])] (fun j => match j with | 0 => ⟨[(1, intsA D), (4, .ptr 4 0 0 0), (5, .ptr 5 0 0 0), (6, iv (n : Int))], [(4, .box [.nils, .nils, .nils, .nils] 41), (5, .box [.nils, .nils, intsA M, .own 40] 41), (40, .row tmE ((D.take n).map (fun x => (⟨x, 1⟩ : Tm))) 60 2)]⟩ | 1 => ⟨[(1, intsA D), (4, .ptr 4 0 0 0), (5, .ptr 5 0 0 0), (6, iv (n : Int)), (16, .own 40)], [(4, .box [.nils, .nils, .nils, .nils] 41), (5, .box [.nils, .nils, intsA M, .own 40] 41), (40, .row tmE ((D.take n).map (fun x => (⟨x, 1⟩ : Tm))) 60 2)]⟩ | 2 => ⟨[(1, intsA D), (4, .ptr 4 0 0 0), (5, .ptr 5 0 0 0), (6, iv (n : Int)), (23, .own 40)], [(4, .box [.nils, .nils, .nils, .nils] 41), (5, .box [.nils, .nils, intsA M, .any] 41), (40, .row tmE ((D.take n).map (fun x => (⟨x, 1⟩ : Tm)) ++ [⟨x, 1⟩]) 60 2)]⟩ | _ => ⟨[(1, intsA D), (4, .ptr 4 0 0 0), (5, .ptr 5 0 0 0), (6, iv (n : Int))], [(4, .box [.nils, .nils, .nils, .nils] 41), (5, .box [.nils, .nils, intsA M, .own 40] 41), (40, .row tmE ((D.take n).map (fun x => (⟨x, 1⟩ : Tm)) ++ [⟨x, 1⟩]) 60 2)]⟩) mo (by kernel_rfl) (Imp.SP0 (Imp.au)) (fun j hj => ?_) (fun j c hc β hβ => ?_) ?_
  ·rcases j with _ | _ | _ | _ | j
   ·refine ⟨.inr ⟨_, rfl, rfl, rfl, rfl, Pur.stepA Pur.au⟩, ?_⟩
    refine ⟨.inr ⟨_, rfl, rfl, rfl, rfl, Pur.stepA Pur.au⟩, ?_⟩
    refine ⟨.inr ⟨_, rfl, rfl, rfl, rfl, Pur.stepA Pur.au⟩, ?_⟩
    refine ⟨.inr ⟨_, rfl, rfl, rfl, rfl, Pur.stepA (P_index_sl (enc := intE) (l := D) (u := x) rfl rfl SlK.h TyK.h (fun _ => rfl) (by omega) hx2)⟩, ?_⟩
    refine ⟨.inr ⟨_, rfl, rfl, rfl, rfl, Pur.stepA Pur.au⟩, ?_⟩
    refine ⟨.inr ⟨_, rfl, rfl, rfl, rfl, Pur.stepA Pur.au⟩, ?_⟩
    refine ⟨.inr ⟨_, rfl, rfl, rfl, rfl, A_buildSliceF (enc := tmE) (l := [⟨x, 1⟩]) sl39 ty60 ze60 (by decide) rfl rfl rfl rfl (by decide) (by decide) (fun _ => rfl) rfl⟩, ?_⟩
    refine ⟨.inl rfl, ?_⟩
    exact True.intro
   ·refine ⟨.inl rfl, ?_⟩
    refine ⟨.inr ⟨_, rfl, rfl, rfl, rfl, Pur.stepA Pur.au⟩, ?_⟩
    refine ⟨.inr ⟨_, rfl, rfl, rfl, rfl, Pur.stepA Pur.au⟩, ?_⟩
    refine ⟨.inr ⟨_, rfl, rfl, rfl, rfl, Pur.stepA (P_index_sl (enc := intE) (l := D) (u := x) rfl rfl SlK.h TyK.h (fun _ => rfl) (by omega) hx2)⟩, ?_⟩
    refine ⟨.inr ⟨_, rfl, rfl, rfl, rfl, Pur.stepA Pur.au⟩, ?_⟩
    refine ⟨.inr ⟨_, rfl, rfl, rfl, rfl, Pur.stepA Pur.au⟩, ?_⟩
    refine ⟨.inr ⟨_, rfl, rfl, rfl, rfl, A_buildSliceF (enc := tmE) (l := [⟨x, 1⟩]) sl39 ty60 ze60 (by decide) rfl rfl rfl rfl (by decide) (by decide) (fun _ => rfl) rfl⟩, ?_⟩
    refine ⟨.inl rfl, ?_⟩
    exact True.intro
   ·refine ⟨.inl rfl, ?_⟩
    refine ⟨.inl rfl, ?_⟩
    refine ⟨.inl rfl, ?_⟩
    refine ⟨.inl rfl, ?_⟩
    refine ⟨.inl rfl, ?_⟩
    refine ⟨.inl rfl, ?_⟩
    refine ⟨.inl rfl, ?_⟩
    refine ⟨.inr ⟨_, rfl, rfl, rfl, rfl, Pur.stepA Pur.au⟩, ?_⟩
    exact True.intro
   ·refine ⟨.inl rfl, ?_⟩
    refine ⟨.inl rfl, ?_⟩
    refine ⟨.inl rfl, ?_⟩
    refine ⟨.inl rfl, ?_⟩
    refine ⟨.inl rfl, ?_⟩
    refine ⟨.inl rfl, ?_⟩
    refine ⟨.inl rfl, ?_⟩
    refine ⟨.inl rfl, ?_⟩
    exact True.intro
   ·exact absurd (show j + 4 <= 3 from hj) (by omega)
  ·rcases j with _ | _ | _ | j
   ·obtain rfl : (1, [0]) = c := by injection hc
    refine Step1.mk rfl (StepM.pre (st0 := ⟨[(15, .ptr 5 0 0 (0 + 3)), (17, .ifb (β 2) (intsA D)), (18, .ifb (β 3) (iv (n : Int))), (19, .ifb (β 4) (.ept intE x 0)), (20, .ifb (β 5) (iv x)), (21, .ifb (β 6) (tmA ⟨x, 1⟩)), (22, .ifb (β 7) (tmsA [⟨x, 1⟩])), (24, .ifb (β 9) (.ptr 5 0 0 (0 + 3))), (1, intsA D), (4, .ptr 4 0 0 0), (5, .ptr 5 0 0 0), (6, iv (n : Int))], [(4, .box [.nils, .nils, .nils, .nils] 41), (5, .box [.nils, .nils, intsA M, .own 40] 41), (40, .row tmE ((D.take n).map (fun x => (⟨x, 1⟩ : Tm))) 60 2)]⟩) (Imp.ib) ?_)
    refine StepM.imp (StepA.toM (Pur.stepA Pur.au) rfl rfl) (Imp.ib)
   ·obtain rfl : (8, [3, 2, 4, 5, 6, 0, 7, 1]) = c := by injection hc
    refine Step1.mk rfl (StepM.pre (st0 := ⟨[(15, .ptr 5 0 0 (0 + 3)), (17, intsA D), (18, iv (n : Int)), (19, .ept intE x 0), (20, iv x), (21, tmA ⟨x, 1⟩), (22, tmsA [⟨x, 1⟩]), (24, .ifb (β 9) (.ptr 5 0 0 (0 + 3))), (1, intsA D), (4, .ptr 4 0 0 0), (5, .ptr 5 0 0 0), (6, iv (n : Int)), (16, .own 40)], [(4, .box [.nils, .nils, .nils, .nils] 41), (5, .box [.nils, .nils, intsA M, .own 40] 41), (40, .row tmE ((D.take n).map (fun x => (⟨x, 1⟩ : Tm))) 60 2)]⟩) (Imp.ib) ?_)
    refine StepM.imp (M_append_sl (l2 := [(⟨x, 1⟩ : Tm)]) rfl rfl rfl sl39 ti60 (by decide) (by decide) (fun _ => rfl) (fun _ => rfl) (by simp only [List.length_cons, List.length_nil]; omega) rfl) (Imp.ib)
   ·obtain rfl : (10, [7, 6, 5, 4, 3, 2, 1, 0, 8, 9]) = c := by injection hc
    refine Step1.mk rfl (StepM.pre (st0 := ⟨[(15, .ptr 5 0 0 (0 + 3)), (17, intsA D), (18, iv (n : Int)), (19, .ept intE x 0), (20, iv x), (21, tmA ⟨x, 1⟩), (22, tmsA [⟨x, 1⟩]), (24, .ptr 5 0 0 (0 + 3)), (1, intsA D), (4, .ptr 4 0 0 0), (5, .ptr 5 0 0 0), (6, iv (n : Int)), (23, .own 40)], [(4, .box [.nils, .nils, .nils, .nils] 41), (5, .box [.nils, .nils, intsA M, .any] 41), (40, .row tmE ((D.take n).map (fun x => (⟨x, 1⟩ : Tm)) ++ [⟨x, 1⟩]) 60 2)]⟩) (Imp.ib) ?_)
    refine StepM.imp (M_store rfl rfl rfl rfl TyK.h (by simp)) (Imp.ib)
   ·exact absurd hc (by simp)
  apply X.region
  iterate 3 refine Ex.pu ?_
  apply Ex.nil
  refine X.bk (n + 1) (hI := Imp.ax)
 ·obtain rfl : n = D.length := by omega
  have hV : (⟨[], [], M, ((D.take D.length).map (fun x => (⟨x, 1⟩ : Tm)))⟩ : Rdg) = rdM M D := by rw [List.take_length]; rfl
  apply X.exit
  apply X.seq
  refine X.imp (st' := ⟨[(4, .ptr 4 0 0 0), (5, .ptr 5 0 0 0)], [(4, .box [.nils, .nils, .nils, .nils] 41), (5, .box [.nils, .nils, intsA M, tmsA ((D.take D.length).map (fun x => (⟨x, 1⟩ : Tm)))] 41)]⟩) ((Imp.freeze (k := 40) rfl).trans Imp.au) ?_
  apply X.region
  refine Ex.pu ?_
  refine Ex.mo ?_
  apply Ex.nil
  refine X.ret ?_
  refine RetQ.imp (Imp.of (ts := [(4, .ptr 4 0 0 0)]) (hs := [(4, .box [intsA [], intsA [], intsA M, tmsA ((D.take D.length).map (fun x => (⟨x, 1⟩ : Tm)))] 41)]) ⟨⟨_, rfl, LeV.refl _⟩, True.intro⟩ ⟨⟨_, rfl, LeB.box (.cons (LeV.nils _) (.cons (LeV.nils _) (.cons (LeV.refl _) (.cons (LeV.refl _) .nil))))⟩, True.intro⟩) ?_
  refine RetQ.ret (.one (.cellA rfl rfl rfl rfl ty41 (LeV.eq ?_)))
  all_goals (exact congrArg (fun z => AV.agg (rdgE z)) hV)
theorem C_tactuslaw18_has (l : List Sg) (W : List Rdg) (hl : l.length <= 1000) (hW : ∀ r ∈ W, Rb r) : Fn Tryz.prog 60 [sgsA l, rdgsA W] (.bool (decide (aqE mCirc l = 0) && decide (aqV mCirc l = W))) := by
 have hln := aqV_len mCirc l
 refine Fn.go Tryz.func60 Tryz.ntmps60 (fun g w d => ?_)
 apply X.sr
 refine Ex.pu ?_
 apply Ex.ns
 refine Ex.ca C_tactuslaw18_circle ?_
 refine Ex.pu ?_
 refine Ex.ca (C_choices_All mCirc l hl) ?_
 iterate 5 refine Ex.pu ?_
 apply Ex.ns
 iterate 2 refine Ex.pu ?_
 refine ExF.at 2 ?_
 refine ExF.pu ?_
 iterate 2 refine ExF.gi ?_
 refine ExF.cg (C_tactuskit_SameReadings (aqV mCirc l) W (by omega) (aqV_b hl) hW) ?_
 refine ExF.done ?_
 iterate 2 refine Ex.pu ?_
 apply Ex.nil
 refine X.ret ?_
 refine RetQ.ret (.one (.tmp rfl (LeV.eq ?_)))
 all_goals (first | rfl | (simp_all; done))
theorem C_has_K : Fn Tryz.prog 60 [sgsA (([3, 4, 3] : List Int).map ntQS), rdgsA [rdM [0, 1, 0] [4, 2, 6], rdM [0, 2, 0] [6, 2, 4]]] (.bool true) := by
 have h := C_tactuslaw18_has e18n e18r (by decide) (by intro r hr; simp [e18r] at hr; rcases hr with rfl | rfl <;> exact ⟨by decide, by decide, by decide, by decide⟩)
 obtain ⟨e1, e2⟩ := allB_ok e18_all
 rw [e1, e2, show (decide ((0 : Int) = 0) && decide (e18r = e18r)) = true by simp] at h
 exact h
theorem C_is_K : Fn Tryz.prog 54 [mnA mCirc, sgsA (([3, 4, 3] : List Int).map ntQS), rdgA (rdM [0, 2, 0] [6, 2, 4])] (.tup [.bool true, iv 0]) := by
 have h := C_choices_Is mCirc e18n (rdM [0, 2, 0] [6, 2, 4]) (by decide) (by decide)
 have e := e18_is
 rw [Bool.and_eq_true, decide_eq_true_iff] at e
 rw [e.1, e.2] at h; exact h
set_option maxHeartbeats 4000000 in
theorem C_tactuslaw18_awake  : Fn Tryz.prog 49 [] (.bool true) := by
 refine Fn.go Tryz.func49 Tryz.ntmps49 (fun g w d => ?_)
 apply X.sr
 refine Ex.pu ?_
 apply Ex.ns
 iterate 2 refine Ex.pu ?_
 apply Ex.ns
 refine Ex.ca C_tactuslaw18_circle ?_
 iterate 3 refine Ex.pu ?_
 refine Ex.stepA (A_buildSliceF (enc := intE) (l := [3, 4, 3]) sl27 ty3 ze3 (by decide) rfl rfl rfl rfl (by decide) (by decide) (fun _ => rfl) rfl) rfl rfl ?_
 refine Ex.ca (C_tactuslaw18_notes [3, 4, 3] (by decide)) ?_
 refine Ex.stepA (A_buildSliceF (enc := intE) (l := [0, 2, 0]) sl27 ty3 ze3 (by decide) rfl rfl rfl rfl (by decide) (by decide) (fun _ => rfl) rfl) rfl rfl ?_
 refine Ex.stepA (A_buildSliceF (enc := intE) (l := [6, 2, 4]) sl27 ty3 ze3 (by decide) rfl rfl rfl rfl (by decide) (by decide) (fun _ => rfl) rfl) rfl rfl ?_
 refine Ex.ca (C_tactuslaw18_reading [0, 2, 0] [6, 2, 4] (by decide)) ?_
 refine Ex.ca C_is_K ?_
 iterate 5 refine Ex.pu ?_
 apply Ex.ns
 iterate 3 refine Ex.pu ?_
 refine Ex.stepA (A_buildSliceF (enc := intE) (l := [3, 4, 3]) sl27 ty3 ze3 (by decide) rfl rfl rfl rfl (by decide) (by decide) (fun _ => rfl) rfl) rfl rfl ?_
 refine Ex.ca (C_tactuslaw18_notes [3, 4, 3] (by decide)) ?_
 refine Ex.stepA (A_buildSliceF (enc := intE) (l := [0, 1, 0]) sl27 ty3 ze3 (by decide) rfl rfl rfl rfl (by decide) (by decide) (fun _ => rfl) rfl) rfl rfl ?_
 refine Ex.stepA (A_buildSliceF (enc := intE) (l := [4, 2, 6]) sl27 ty3 ze3 (by decide) rfl rfl rfl rfl (by decide) (by decide) (fun _ => rfl) rfl) rfl rfl ?_
 refine Ex.ca (C_tactuslaw18_reading [0, 1, 0] [4, 2, 6] (by decide)) ?_
 refine Ex.stepA (A_buildSliceF (enc := intE) (l := [0, 2, 0]) sl27 ty3 ze3 (by decide) rfl rfl rfl rfl (by decide) (by decide) (fun _ => rfl) rfl) rfl rfl ?_
 refine Ex.stepA (A_buildSliceF (enc := intE) (l := [6, 2, 4]) sl27 ty3 ze3 (by decide) rfl rfl rfl rfl (by decide) (by decide) (fun _ => rfl) rfl) rfl rfl ?_
 refine Ex.ca (C_tactuslaw18_reading [0, 2, 0] [6, 2, 4] (by decide)) ?_
 refine Ex.stepA (A_buildSliceF (enc := rdgE) (l := [rdM [0, 1, 0] [4, 2, 6], rdM [0, 2, 0] [6, 2, 4]]) sl78 ty41 ze41 (by decide) rfl rfl rfl rfl (by decide) (by decide) (fun _ => rfl) rfl) rfl rfl ?_
 refine Ex.ca C_has_K ?_
 refine Ex.pu ?_
 refine Ex.unguard rfl rfl rfl ?_
 iterate 3 refine Ex.pu ?_
 refine Ex.unguard rfl rfl rfl ?_
 refine Ex.pu ?_
 refine Ex.unguard rfl rfl rfl ?_
 iterate 3 refine Ex.pu ?_
 apply Ex.nil
 refine X.ret ?_
 refine RetQ.ret (.one (.tmp rfl (LeV.eq ?_)))
 all_goals (first | rfl | simp)
end Go.Rse
namespace Go.Rse
open Go Go.Proofs
def nrm (s : Sg) : Sg := { (default : Sg) with Kind := s.Kind, Value := s.Value, Color := s.Color }
theorem nrm_at (l : List Sg) (k : Nat) : (l.map nrm)[k]? = (l[k]?).map nrm := List.getElem?_map
theorem nrm_D (l : List Sg) (k : Nat) : (l.map nrm).getD k default = nrm (l.getD k default) := by
 rw [List.getD_eq_getElem?_getD, List.getD_eq_getElem?_getD, nrm_at]; cases l[k]? <;> rfl
theorem nrm_len (l : List Sg) : (l.map nrm).length = l.length := List.length_map ..
theorem nrm_dots (l : List Sg) : ∀ k, dotsK (l.map nrm) k = dotsK l k
 | 0 => rfl
 | k + 1 => by unfold dotsK; rw [nrm_dots l k, nrm_at]; cases l[k]? <;> rfl
theorem nrm_ckF (m : Mn) (l : List Sg) : ∀ (r : List Sg) (k : Nat), ckFrom m (l.map nrm) k (r.map nrm) = ckFrom m l k r
 | [], k => rfl
 | s :: r, k => by
  have e : sgF m (l.map nrm) k (nrm s) = sgF m l k s := by
   unfold sgF
   cases k with
   | zero => rfl
   | succ j => simp only [nrm_at]; cases l[j]? <;> rfl
  simp only [List.map_cons, ckFrom]; rw [e, nrm_ckF m l r]
section
variable (m : Mn) (l : List Sg)
theorem nrm_ck : ckD m (l.map nrm) = ckD m l := by unfold ckD; rw [nrm_ckF]
theorem nrm_mns : mnsD m (l.map nrm) = mnsD m l := by
 unfold mnsD; rw [nrm_len, nrm_dots]
 refine List.map_congr_left fun x _ => ?_
 unfold mnAt prevS; rw [nrm_at]; cases l[(x - 1).toNat]? <;> rfl
theorem nrm_near (b : Int) : ∀ (n : Nat) (i : Int), nearA (l.map nrm) b n i = (nearA l b n i).map nrm
 | 0, _ => rfl
 | n + 1, i => by
  have ih := nrm_near b n (i + b)
  unfold nearA
  rw [nrm_len, nrm_D, show (nrm (l.getD i.toNat default)).Kind = (l.getD i.toNat default).Kind from rfl, ih]
  split
  ·split <;> rfl
  ·rfl
theorem nrm_fr (b i : Int) : frB (nearF (l.map nrm) b i) = frB (nearF l b i) := by
 unfold nearF; rw [nrm_near, nrm_len]; cases nearA l b (l.length + 2) i <;> rfl
theorem nrm_pair (i : Int) : isPair m (l.map nrm) i = isPair m l i := by
 unfold isPair pairB
 rw [nrm_len, nrm_D, nrm_D, nrm_D, nrm_fr, nrm_fr]; rfl
theorem nrm_pairK : ∀ k, pairK m (l.map nrm) k = pairK m l k
 | 0 => rfl
 | k + 1 => by unfold pairK; rw [nrm_pair, nrm_pairK k]
theorem nrm_pr : prL m (l.map nrm) = prL m l := by unfold prL pairL; rw [nrm_ck, nrm_len, nrm_pairK]
theorem nrm_ictE : ictE m (l.map nrm) = ictE m l := by unfold ictE cntE colE cntV colN; rw [nrm_ck, nrm_mns, nrm_pr]
theorem nrm_ictV : ictV m (l.map nrm) = ictV m l := by unfold ictV; rw [nrm_ictE]; unfold cntV colN; rw [nrm_ck, nrm_mns, nrm_pr]
theorem nrm_iofE (n : Int) : iofE m (l.map nrm) n = iofE m l n := by unfold iofE; rw [nrm_ictE, nrm_ictV]
theorem nrm_iofD (n : Int) : iofD m (l.map nrm) n = iofD m l n := by unfold iofD; rw [nrm_iofE, nrm_mns, nrm_pr]
theorem nrm_iofM (n : Int) : iofM m (l.map nrm) n = iofM m l n := by unfold iofM; rw [nrm_iofE, nrm_pr]
theorem nrm_mkK (ch : List Int) : ∀ k, mkK ch (l.map nrm) k = mkK ch l k
 | 0 => rfl
 | k + 1 => by unfold mkK; rw [nrm_mkK ch k, nrm_at]; cases l[k]? <;> rfl
theorem nrm_mkE (ch : List Int) : mkE m (l.map nrm) ch = mkE m l ch := by unfold mkE; rw [nrm_ck, nrm_mns]
theorem nrm_duE (mi : List Int) : duE m (l.map nrm) mi = duE m l mi := by unfold duE; rw [nrm_ck, nrm_pr]
theorem nrm_dvK (M : List (Int × Tm)) : ∀ k, dvK m (l.map nrm) M k = dvK m l M k
 | 0 => rfl
 | k + 1 => by unfold dvK; rw [nrm_dvK M k, nrm_at]; cases l[k]? <;> rfl
theorem nrm_nt : ∀ k, ntN (l.map nrm) k = ntN l k
 | 0 => rfl
 | k + 1 => by unfold ntN; rw [nrm_nt k, nrm_at]; cases l[k]? <;> rfl
theorem nrm_itK (c : List Int) (a : List Bool) (d : List Tm) : ∀ k, itK (l.map nrm) c a d k = itK l c a d k
 | 0 => rfl
 | k + 1 => by unfold itK; rw [nrm_itK c a d k, nrm_at, nrm_nt]; cases l[k]? <;> rfl
theorem nrm_itm (ch mi : List Int) : itmV m (l.map nrm) ch mi = itmV m l ch mi := by
 have e : itmE m (l.map nrm) ch mi = itmE m l ch mi := by unfold itmE; rw [nrm_mkE, nrm_duE]
 unfold itmV; rw [e]
 unfold mkC mkA duV duM
 rw [nrm_mkE, nrm_duE, nrm_len, nrm_mkK, nrm_dvK, nrm_pr, nrm_itK]
end
end Go.Rse
namespace Go.Rse
open Go Go.Proofs
section
variable (m : Mn) (l : List Sg)
theorem nrm_cmR (n : Int) : cmR m (l.map nrm) n = cmR m l n := by unfold cmR cmI; rw [nrm_iofD, nrm_iofM, nrm_itm]
theorem nrm_cmE (n : Int) : cmE m (l.map nrm) n = cmE m l n := by unfold cmE; rw [nrm_cmR]
theorem nrm_cmV (n : Int) : cmV m (l.map nrm) n = cmV m l n := by unfold cmV; rw [nrm_cmE, nrm_cmR, nrm_iofD, nrm_iofM]
theorem nrm_aqN : ∀ n, aqN m (l.map nrm) n = aqN m l n
 | 0 => rfl
 | n + 1 => by unfold aqN; rw [nrm_aqN n, nrm_cmV]
theorem nrm_aqX : ∀ n, aqX m (l.map nrm) n = aqX m l n
 | 0 => rfl
 | n + 1 => by unfold aqX; rw [nrm_aqX n, nrm_cmE, nrm_aqN]
theorem nrm_aqE : aqE m (l.map nrm) = aqE m l := by unfold aqE; rw [nrm_ictE, nrm_ictV, nrm_aqX, nrm_aqN]
theorem nrm_aqV : aqV m (l.map nrm) = aqV m l := by unfold aqV; rw [nrm_aqE, nrm_ictV, nrm_aqN]
end
theorem nrm_all {m : Mn} {l x : List Sg} (h : l.map nrm = x.map nrm) : aqE m l = aqE m x /\ aqV m l = aqV m x :=
 ⟨by rw [← nrm_aqE m l, h, nrm_aqE], by rw [← nrm_aqV m l, h, nrm_aqV]⟩
end Go.Rse
