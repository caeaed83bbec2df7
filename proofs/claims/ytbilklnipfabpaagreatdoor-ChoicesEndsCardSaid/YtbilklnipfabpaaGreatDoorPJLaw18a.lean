/-
  Walks: lists of readings compared; the chapter's examples on choices.
-/
import Derived.Test.YtbilklnipfabpaaGreatDoorPJCho9
import Derived.Test.YtbilklnipfabpaaGreatDoorPJItem3
import Derived.Test.YtbilklnipfabpaaGreatDoorPJLvl16
import Derived.Test.YtbilklnipfabpaaGreatDoorPJRl0
import Derived.Test.YtbilklnipfabpaaGreatDoorPJCmb1
import Derived.Test.YtbilklnipfabpaaGreatDoorPJCho8
set_option linter.unusedSimpArgs false
set_option linter.unusedVariables false
namespace Go.Rse
open Go Go.Proofs Go.RowKit
attribute [local irreducible] Pur yx yz Ex X Fn Imp LeV LeB FnO It yC FnW FnOW
structure Rb (r : Rdg) : Prop where
 d : r.Dots.length <= 100000
 m : r.Minor.length <= 100000
 c : r.Choices.length <= 100000
 u : r.Durs.length <= 100000
theorem zmw {m : Mn} : ∀ (L : List Int) (c : Nat) (z : List Par), z.length <= 4096 -> (∀ p ∈ z, PB 1000 0 c p) -> ∀ p ∈ (cmL m L z).1, PB 1000 0 (c + L.length * 2002) p
 | [], c, z, _, h => by simpa [cmL] using h
 | k :: r, c, z, h1, h2 => by
  simp only [cmL];split
  ·have := zjM (m := m) (k := k) h1 h2;intro p hp;have := zmw r _ _ this.1 this.2 p hp;refine ⟨this.i, this.n, ?_⟩;have h3 := this.d;simp only [List.length_cons]; omega
  ·simp
theorem zsE {m : Mn} {l : List Sg} (hl : l.length <= 1000) {n : Int} : ∀ r ∈ cmV m l n, Rb r := by
 intro r hr;unfold cmV cmR at hr;split at hr
 ·obtain ⟨p, hp, rfl⟩ := List.mem_map.1 hr;have hB := zmw (m := m) (perfL m) 0 _ (by simp) (zlG m hl n) p hp;have h4 := zh2 m
  have hd : (iofD m l n).length <= 1000 := by
   by_cases he : iofE m l n = 0
   ·rw [zhD he]; have := zkd m l; omega
   ·unfold iofD; rw [if_neg he]; simp
  have hm : (iofM m l n).length <= 1000 := by
   by_cases he : iofE m l n = 0
   ·rw [zhE he]; have := zhG m l; omega
   ·unfold iofM; rw [if_neg he]; simp
  refine ⟨by show (iofD m l n).length <= _; omega, by show (iofM m l n).length <= _; omega, ?_, ?_⟩
  ·show p.made.length <= _; have := hB.d; omega
  ·show (p.items.map _).length <= _; rw [List.length_map]; have := hB.i; omega
 ·simp at hr
theorem zpF {m : Mn} {l : List Sg} (hl : l.length <= 1000) : ∀ n, ∀ r ∈ aqN m l n, Rb r
 | 0 => by simp [aqN]
 | n + 1 => fun r hr => by
  rcases List.mem_append.1 (show r ∈ aqN m l n ++ cmV m l n from hr) with h | h
  ·exact zpF hl n r h
  ·exact zsE hl r h
theorem zpG {m : Mn} {l : List Sg} (hl : l.length <= 1000) : ∀ r ∈ aqV m l, Rb r := by
 unfold aqV; split
 ·exact zpF hl _
 ·simp
abbrev ntQS (v : Int) : Sg := ⟨1, v, 0, 0, false, 0, false, false, ⟨0, 0, 0, 0⟩, false, 0, 0, 0, 0⟩
def rdM (M D : List Int) : Rdg := ⟨[], [], M, D.map fun x => ⟨x, 1⟩⟩
theorem zok {l : List Int} {n : Nat} {x : Int} (h : l[n]? = some x) : (l.take n).map ntQS ++ [ntQS x] = (l.take (n + 1)).map ntQS := by
 rw [List.take_add_one, h]; simp
theorem zol {l : List Int} {n : Nat} {x : Int} (h : l[n]? = some x) : (l.take n).map (fun x => (⟨x, 1⟩ : Tm)) ++ [⟨x, 1⟩] = (l.take (n + 1)).map (fun x => (⟨x, 1⟩ : Tm)) := by
 rw [List.take_add_one, h]; simp
def e18n : List Sg := [ntQS 3, ntQS 4, ntQS 3]
def e18r : List Rdg := [rdM [0, 1, 0] [4, 2, 6], rdM [0, 2, 0] [6, 2, 4]]
def allB (m : Mn) (l : List Sg) (R : List Rdg) : Bool := decide (aqE m l = 0) && decide (aqV m l = R)
theorem zom {m : Mn} {l : List Sg} {R : List Rdg} (h : allB m l R = true) : aqE m l = 0 /\ aqV m l = R := by
 unfold allB at h; simpa using h
theorem zon : allB zcC e18n e18r = true := by kernel_rfl
theorem zqT : (isV zcC e18n (rdM [0, 2, 0] [6, 2, 4]) && decide (ckD zcC e18n = 0)) = true := by kernel_rfl
attribute [local irreducible] aqV aqE isV ckD
theorem zbQ (a b : List Rdg) (hl : a.length <= 4000000000) (ha : ∀ r ∈ a, Rb r) (hb : ∀ r ∈ b, Rb r) : Fn Tryz.prog 30 [.sl rdgE a, .sl rdgE b] (.bool (decide (a = b))) := by
 refine Fn.go Tryz.func30 Tryz.ntmps30 (fun g w d => ?_);apply yb;refine ye ?_;apply yd;apply yb;refine ze ?_;refine yk rfl ?_ ?_<;>intro hc1
 ·have hD : decide (a = b) = false := by rw [decide_eq_false_iff_not]; intro h; subst h; exact hc1 rfl
  apply yb;refine ye ?_;refine X.ret ?_;refine ym ?_;all_goals (rw [hD])
 have hlen : a.length = b.length := by omega
 apply yf;apply yd;apply yb;refine ye ?_;apply X.block
 refine zh (ι := Nat) (fun (k : Nat) => [(0, .sl rdgE a), (1, .sl rdgE b), (5, iv (k : Int))]) (fun (k : Nat) => []) (fun (k : Nat) => k <= a.length /\ a.take k = b.take k) (fun (k : Nat) => a.length - k) 0 (fun k hk => ?_) (hJ := by
  exact ⟨by omega, by simp⟩)
 obtain ⟨hk1, hk2⟩ := hk;apply yd;apply yb;refine zT ?_;refine yk rfl ?_ ?_<;>intro hc2
 ·obtain ⟨x, hx⟩ : ∃ x, a[k]? = some x := ⟨_, lgg (by omega)⟩;have hx2 : a[(k : Int).toNat]? = some x := by simpa using hx
  obtain ⟨y, hy⟩ : ∃ y, b[k]? = some y := ⟨_, lgg (by omega)⟩;have hy2 : b[(k : Int).toNat]? = some y := by simpa using hy
  have hxb := ha x (List.mem_of_getElem? hx);apply yf;apply yd;apply X.block;apply yd;refine zy [17,18,19,20,21,22,23,24,25,26] [0,0,3,7,0,0,48,112,255,511] mo ?_;iterate 8 refine yl ?_
  refine zz (zbW x y (by have := hxb.d; omega) (by have := hxb.m; omega) (by have := hxb.c; omega) (by have := hxb.u; omega)) ?_;refine yl ?_;refine y7 ?_;apply Ex.nil;refine yk rfl ?_ ?_<;>intro hc3
  ·have hD : decide (a = b) = false := by rw [decide_eq_false_iff_not]; intro h; subst h; rw [hx] at hy; injection hy with hy; exact (by simpa using hc3 : ¬ x = y) hy
   apply yb;refine ye ?_;refine X.ret ?_;refine ym ?_;all_goals (rw [hD])
  apply yf;apply yc;refine yn ?_
  refine yP (k + 1) (hJ := by
   exact ⟨by omega, by rw [← zbo hx, ← zbo hy, hk2, (by simpa using hc3 : x = y)]⟩)
 ·have hD : decide (a = b) = true := by
   have h1 : k = a.length := by omega
   rw [decide_eq_true_iff]; subst h1; rw [List.take_length, hlen, List.take_length] at hk2; exact hk2
  apply X.exit;apply yb;refine ye ?_;refine X.ret ?_;refine ym ?_;all_goals (rw [hD])
theorem zaZ  : Fn Tryz.prog 27 [] (mnA zcC) := by
 refine Fn.go Tryz.func27 Tryz.ntmps27 (fun g w d => ?_);apply yb;refine yH ?_;apply yj;refine ya ?_;refine Ex.mo ?_;apply Ex.nil;refine X.ret ?_;refine RetQ.ret (.one (.cellA rfl rfl rfl rfl ty24 (LeV.eq ?_)));all_goals (first | rfl | (simp_all; done))
theorem za8 (l : List Int) (hl : l.length <= 1000) : Fn Tryz.prog 24 [yg l] (sgsA (l.map ntQS)) := by
 have hz0 : [] = (l.take 0).map ntQS := by simp
 refine Fn.go Tryz.func24 Tryz.ntmps24 (fun g w d => ?_);apply yb;refine ya ?_;apply yj;refine ye ?_;iterate 2 apply yd
 refine X.imp (y5 sgE 40 17 3 30 rfl rfl) ?_;apply yc;refine ye ?_;apply X.block
 refine zh (ι := Nat) (fun (n : Nat) => [(0, yg l), (3, .own 30), (4, iv (n : Int))]) (fun (n : Nat) => [(30, .row sgE ((l.take n).map ntQS) 40 17)]) (fun (n : Nat) => n <= l.length) (fun (n : Nat) => l.length - n) 0 (fun n hk => ?_) (h0 := by
  exact yw)
 apply yd;apply yb;refine zT ?_;refine yk rfl ?_ ?_<;>intro hc1
 ·obtain ⟨x, hx⟩ : ∃ x, l[n]? = some x := ⟨_, lgg (by omega)⟩;have hx2 : l[(n : Int).toNat]? = some x := by simpa using hx
  have hst := zok hx;have hlt : ((l.take n).map ntQS).length <= 1000 := by rw [List.length_map, List.length_take]; omega
  apply yf;apply yd;apply X.block;apply yc;iterate 6 refine ya ?_
  refine y2 sgE [ntQS x] ?_;refine Ex.mo ?_;refine ye ?_;apply yc;refine yn ?_;refine yP (n + 1) (hI := yw)
 ·obtain rfl : n = l.length := by omega
  have hV : (l.take l.length).map ntQS = l.map ntQS := by rw [List.take_length]
  apply X.exit;apply yb;refine yh ?_;refine X.ret ?_;refine RetQ.imp (Imp.freeze (k := 30) rfl) ?_;refine ym ?_;all_goals (exact congrArg (fun z => sgsA z) hV)
set_option maxHeartbeats 4000000 in
theorem zV (M D : List Int) (hl : D.length <= 1000) : Fn Tryz.prog 25 [yg M, yg D] (rdgA (rdM M D)) := by
 have hz0 : [] = (D.take 0).map (fun x => (⟨x, 1⟩ : Tm)) := by simp
 refine Fn.go Tryz.func25 Tryz.ntmps25 (fun g w d => ?_);apply yb;refine yH ?_;apply yj;iterate 2 refine ya ?_
 refine yH ?_;refine Ex.mo ?_;apply Ex.nil;iterate 2 apply yd
 refine X.imp (st' := ⟨[(1, yg D), (4, .ptr 4 0 0 0), (5, .ptr 5 0 0 0)], [(4, .box [.nils, .nils, .nils, .nils] 35), (5, .box [.nils, .nils, yg M, .own 40] 35), (40, .row tmE [] 46 2)]⟩) ((zj0 tmE 46 2 5 40 3 35 _ [.nils, .nils, yg M, .own 40] rfl rfl rfl rfl).trans yi) ?_;apply yc;refine ye ?_;apply X.block
 refine zh (ι := Nat) (fun (n : Nat) => [(1, yg D), (4, .ptr 4 0 0 0), (5, .ptr 5 0 0 0), (6, iv (n : Int))]) (fun (n : Nat) => [(4, .box [.nils, .nils, .nils, .nils] 35), (5, .box [.nils, .nils, yg M, .own 40] 35), (40, .row tmE ((D.take n).map (fun x => (⟨x, 1⟩ : Tm))) 46 2)]) (fun (n : Nat) => n <= D.length) (fun (n : Nat) => D.length - n) 0 (fun n hk => ?_) (h0 := by
  exact yw)
 apply yd;apply yb;refine zT ?_;refine yk rfl ?_ ?_<;>intro hc1
 ·obtain ⟨x, hx⟩ : ∃ x, D[n]? = some x := ⟨_, lgg (by omega)⟩;have hx2 : D[(n : Int).toNat]? = some x := by simpa using hx
  have hst := zol hx;have hlt : ((D.take n).map (fun x => (⟨x, 1⟩ : Tm))).length <= 1000 := by rw [List.length_map, List.length_take]; omega
  apply yf;apply yd;apply X.block;refine X.drawQ [⟨0, 15, .ptr 5 0 0 (0 + 3), []⟩, ⟨2, 17, yg D, []⟩, ⟨3, 18, iv (n : Int), []⟩, ⟨4, 19, .ept intE x 0, [3, 2]⟩, ⟨5, 20, iv x, [3, 2, 4]⟩, ⟨6, 21, tmA ⟨x, 1⟩, [3, 2, 4, 5]⟩, ⟨7, 22, tmsA [⟨x, 1⟩], [3, 2, 4, 5, 6]⟩, ⟨9, 24, .ptr 5 0 0 (0 + 3), [8, 7, 6, 5, 4, 3, 2, 1, 0]⟩] [(1, [0]), (8, [3, 2, 4, 5, 6, 0, 7, 1]), (10, [7, 6, 5, 4, 3, 2, 1, 0, 8, 9])] (fun j => match j with | 0 => ⟨[(1, yg D), (4, .ptr 4 0 0 0), (5, .ptr 5 0 0 0), (6, iv (n : Int))], [(4, .box [.nils, .nils, .nils, .nils] 35), (5, .box [.nils, .nils, yg M, .own 40] 35), (40, .row tmE ((D.take n).map (fun x => (⟨x, 1⟩ : Tm))) 46 2)]⟩ | 1 => ⟨[(1, yg D), (4, .ptr 4 0 0 0), (5, .ptr 5 0 0 0), (6, iv (n : Int)), (16, .own 40)], [(4, .box [.nils, .nils, .nils, .nils] 35), (5, .box [.nils, .nils, yg M, .own 40] 35), (40, .row tmE ((D.take n).map (fun x => (⟨x, 1⟩ : Tm))) 46 2)]⟩ | 2 => ⟨[(1, yg D), (4, .ptr 4 0 0 0), (5, .ptr 5 0 0 0), (6, iv (n : Int)), (23, .own 40)], [(4, .box [.nils, .nils, .nils, .nils] 35), (5, .box [.nils, .nils, yg M, .any] 35), (40, .row tmE ((D.take n).map (fun x => (⟨x, 1⟩ : Tm)) ++ [⟨x, 1⟩]) 46 2)]⟩ | _ => ⟨[(1, yg D), (4, .ptr 4 0 0 0), (5, .ptr 5 0 0 0), (6, iv (n : Int))], [(4, .box [.nils, .nils, .nils, .nils] 35), (5, .box [.nils, .nils, yg M, .own 40] 35), (40, .row tmE ((D.take n).map (fun x => (⟨x, 1⟩ : Tm)) ++ [⟨x, 1⟩]) 46 2)]⟩) mo (by kernel_rfl) (zbf (yi)) (fun j hj => ?_) (fun j c hc β hβ => ?_) ?_
  ·rcases j with _ | _ | _ | _ | j
   ·(iterate 3 refine ⟨.inr ⟨_, rfl, rfl, rfl, rfl, Pur.stepA yM⟩, ?_⟩);refine ⟨.inr ⟨_, rfl, rfl, rfl, rfl, Pur.stepA (zaT (enc := intE) (l := D) (u := x) rfl rfl SlK.h TyK.h (fun _ => rfl) (by omega) hx2)⟩, ?_⟩;(iterate 2 refine ⟨.inr ⟨_, rfl, rfl, rfl, rfl, Pur.stepA yM⟩, ?_⟩);refine ⟨.inr ⟨_, rfl, rfl, rfl, rfl, y4 (enc := tmE) (l := [⟨x, 1⟩]) sl33 ty46 ze46 (by decide) rfl rfl rfl rfl (by decide) (by decide) (fun _ => rfl) rfl⟩, ?_⟩;exact zj
   ·refine ⟨.inl rfl, ?_⟩;(iterate 2 refine ⟨.inr ⟨_, rfl, rfl, rfl, rfl, Pur.stepA yM⟩, ?_⟩);refine ⟨.inr ⟨_, rfl, rfl, rfl, rfl, Pur.stepA (zaT (enc := intE) (l := D) (u := x) rfl rfl SlK.h TyK.h (fun _ => rfl) (by omega) hx2)⟩, ?_⟩;(iterate 2 refine ⟨.inr ⟨_, rfl, rfl, rfl, rfl, Pur.stepA yM⟩, ?_⟩);refine ⟨.inr ⟨_, rfl, rfl, rfl, rfl, y4 (enc := tmE) (l := [⟨x, 1⟩]) sl33 ty46 ze46 (by decide) rfl rfl rfl rfl (by decide) (by decide) (fun _ => rfl) rfl⟩, ?_⟩;exact zj
   ·exact zj
   ·exact zj
   ·exact absurd (show j + 4 <= 3 from hj) (by omega)
  ·rcases j with _ | _ | _ | j
   ·obtain rfl : (1, [0]) = c := by injection hc
    refine yo rfl (yK (st0 := ⟨[(15, .ptr 5 0 0 (0 + 3)), (17, .ifb (β 2) (yg D)), (18, .ifb (β 3) (iv (n : Int))), (19, .ifb (β 4) (.ept intE x 0)), (20, .ifb (β 5) (iv x)), (21, .ifb (β 6) (tmA ⟨x, 1⟩)), (22, .ifb (β 7) (tmsA [⟨x, 1⟩])), (24, .ifb (β 9) (.ptr 5 0 0 (0 + 3))), (1, yg D), (4, .ptr 4 0 0 0), (5, .ptr 5 0 0 0), (6, iv (n : Int))], [(4, .box [.nils, .nils, .nils, .nils] 35), (5, .box [.nils, .nils, yg M, .own 40] 35), (40, .row tmE ((D.take n).map (fun x => (⟨x, 1⟩ : Tm))) 46 2)]⟩) (yG) ?_);refine yz.imp (yr (Pur.stepA yM) rfl rfl) (yG)
   ·obtain rfl : (8, [3, 2, 4, 5, 6, 0, 7, 1]) = c := by injection hc
    refine yo rfl (yK (st0 := ⟨[(15, .ptr 5 0 0 (0 + 3)), (17, yg D), (18, iv (n : Int)), (19, .ept intE x 0), (20, iv x), (21, tmA ⟨x, 1⟩), (22, tmsA [⟨x, 1⟩]), (24, .ifb (β 9) (.ptr 5 0 0 (0 + 3))), (1, yg D), (4, .ptr 4 0 0 0), (5, .ptr 5 0 0 0), (6, iv (n : Int)), (16, .own 40)], [(4, .box [.nils, .nils, .nils, .nils] 35), (5, .box [.nils, .nils, yg M, .own 40] 35), (40, .row tmE ((D.take n).map (fun x => (⟨x, 1⟩ : Tm))) 46 2)]⟩) (yG) ?_);refine yz.imp (za4 (l2 := [(⟨x, 1⟩ : Tm)]) rfl rfl rfl sl33 ti46 (by decide) (by decide) (fun _ => rfl) (fun _ => rfl) (by simp only [List.length_cons, List.length_nil]; omega) rfl) (yG)
   ·obtain rfl : (10, [7, 6, 5, 4, 3, 2, 1, 0, 8, 9]) = c := by injection hc
    refine yo rfl (yK (st0 := ⟨[(15, .ptr 5 0 0 (0 + 3)), (17, yg D), (18, iv (n : Int)), (19, .ept intE x 0), (20, iv x), (21, tmA ⟨x, 1⟩), (22, tmsA [⟨x, 1⟩]), (24, .ptr 5 0 0 (0 + 3)), (1, yg D), (4, .ptr 4 0 0 0), (5, .ptr 5 0 0 0), (6, iv (n : Int)), (23, .own 40)], [(4, .box [.nils, .nils, .nils, .nils] 35), (5, .box [.nils, .nils, yg M, .any] 35), (40, .row tmE ((D.take n).map (fun x => (⟨x, 1⟩ : Tm)) ++ [⟨x, 1⟩]) 46 2)]⟩) (yG) ?_);refine yz.imp (zfD rfl rfl rfl rfl TyK.h (by simp)) (yG)
   ·exact absurd hc (by simp)
  apply yc;refine yn ?_;refine yP (n + 1) (hI := yw)
 ·obtain rfl : n = D.length := by omega
  have hV : (⟨[], [], M, ((D.take D.length).map (fun x => (⟨x, 1⟩ : Tm)))⟩ : Rdg) = rdM M D := by rw [List.take_length]; rfl
  apply X.exit;apply yd;refine X.imp (st' := ⟨[(4, .ptr 4 0 0 0), (5, .ptr 5 0 0 0)], [(4, .box [.nils, .nils, .nils, .nils] 35), (5, .box [.nils, .nils, yg M, tmsA ((D.take D.length).map (fun x => (⟨x, 1⟩ : Tm)))] 35)]⟩) ((Imp.freeze (k := 40) rfl).trans yi) ?_;apply yc;refine ya ?_;refine Ex.mo ?_;apply Ex.nil;refine X.ret ?_;refine RetQ.imp (Imp.of (ts := [(4, .ptr 4 0 0 0)]) (hs := [(4, .box [yg [], yg [], yg M, tmsA ((D.take D.length).map (fun x => (⟨x, 1⟩ : Tm)))] 35)]) ⟨⟨_, rfl, LeV.refl _⟩, True.intro⟩ ⟨⟨_, rfl, LeB.box (.cons (LeV.nils _) (.cons (LeV.nils _) (.cons (LeV.refl _) (.cons (LeV.refl _) .nil))))⟩, True.intro⟩) ?_;refine RetQ.ret (.one (.cellA rfl rfl rfl rfl ty35 (LeV.eq ?_)));all_goals (exact congrArg (fun z => AV.agg (rdgE z)) hV)
theorem zd8 (l : List Sg) (W : List Rdg) (hl : l.length <= 1000) (hW : ∀ r ∈ W, Rb r) : Fn Tryz.prog 23 [sgsA l, zI W] (.bool (decide (aqE zcC l = 0) && decide (aqV zcC l = W))) := by
 have hln := zfx zcC l;refine Fn.go Tryz.func23 Tryz.ntmps23 (fun g w d => ?_);apply yb;refine ya ?_;apply yj;refine yq zaZ ?_;refine ya ?_;refine yq (zbO zcC l hl) ?_;iterate 5 refine ya ?_
 apply yj;iterate 2 refine ya ?_
 refine ExF.at 2 ?_;refine yI ?_;iterate 2 refine ExF.gi ?_
 refine ExF.cg (zbQ (aqV zcC l) W (by omega) (zpG hl) hW) ?_;refine yA ?_;refine yh ?_;refine X.ret ?_;refine ym ?_;all_goals (first | rfl | (simp_all; done))
theorem zoo : Fn Tryz.prog 23 [sgsA (([3, 4, 3] : List Int).map ntQS), zI [rdM [0, 1, 0] [4, 2, 6], rdM [0, 2, 0] [6, 2, 4]]] (.bool true) := by
 have h := zd8 e18n e18r (by decide) (by intro r hr; simp [e18r] at hr; rcases hr with rfl | rfl <;> exact ⟨by decide, by decide, by decide, by decide⟩);obtain ⟨e1, e2⟩ := zom zon;rw [e1, e2, show (decide ((0 : Int) = 0) && decide (e18r = e18r)) = true by simp] at h;exact h
theorem zqU : Fn Tryz.prog 17 [mnA zcC, sgsA (([3, 4, 3] : List Int).map ntQS), rdgA (rdM [0, 2, 0] [6, 2, 4])] (.tup [.bool true, iv 0]) := by
 have h := zhB zcC e18n (rdM [0, 2, 0] [6, 2, 4]) (by decide) (by decide);have e := zqT;rw [Bool.and_eq_true, decide_eq_true_iff] at e;rw [e.1, e.2] at h; exact h
set_option maxHeartbeats 4000000 in
theorem za9  : Fn Tryz.prog 15 [] (.bool true) := by
 refine Fn.go Tryz.func15 Tryz.ntmps15 (fun g w d => ?_);apply yb;refine ya ?_;apply yj;iterate 2 refine ya ?_
 apply yj;refine yq zaZ ?_;iterate 3 refine ya ?_
 refine Ex.stepA (y4 (enc := intE) (l := [3, 4, 3]) sl22 ty3 ze3 (by decide) rfl rfl rfl rfl (by decide) (by decide) (fun _ => rfl) rfl) rfl rfl ?_;refine yq (za8 [3, 4, 3] (by decide)) ?_;refine Ex.stepA (y4 (enc := intE) (l := [0, 2, 0]) sl22 ty3 ze3 (by decide) rfl rfl rfl rfl (by decide) (by decide) (fun _ => rfl) rfl) rfl rfl ?_;refine Ex.stepA (y4 (enc := intE) (l := [6, 2, 4]) sl22 ty3 ze3 (by decide) rfl rfl rfl rfl (by decide) (by decide) (fun _ => rfl) rfl) rfl rfl ?_;refine yq (zV [0, 2, 0] [6, 2, 4] (by decide)) ?_;refine yq zqU ?_;iterate 5 refine ya ?_
 apply yj;iterate 3 refine ya ?_
 refine Ex.stepA (y4 (enc := intE) (l := [3, 4, 3]) sl22 ty3 ze3 (by decide) rfl rfl rfl rfl (by decide) (by decide) (fun _ => rfl) rfl) rfl rfl ?_;refine yq (za8 [3, 4, 3] (by decide)) ?_;refine Ex.stepA (y4 (enc := intE) (l := [0, 1, 0]) sl22 ty3 ze3 (by decide) rfl rfl rfl rfl (by decide) (by decide) (fun _ => rfl) rfl) rfl rfl ?_;refine Ex.stepA (y4 (enc := intE) (l := [4, 2, 6]) sl22 ty3 ze3 (by decide) rfl rfl rfl rfl (by decide) (by decide) (fun _ => rfl) rfl) rfl rfl ?_;refine yq (zV [0, 1, 0] [4, 2, 6] (by decide)) ?_;refine Ex.stepA (y4 (enc := intE) (l := [0, 2, 0]) sl22 ty3 ze3 (by decide) rfl rfl rfl rfl (by decide) (by decide) (fun _ => rfl) rfl) rfl rfl ?_;refine Ex.stepA (y4 (enc := intE) (l := [6, 2, 4]) sl22 ty3 ze3 (by decide) rfl rfl rfl rfl (by decide) (by decide) (fun _ => rfl) rfl) rfl rfl ?_;refine yq (zV [0, 2, 0] [6, 2, 4] (by decide)) ?_;refine Ex.stepA (y4 (enc := rdgE) (l := [rdM [0, 1, 0] [4, 2, 6], rdM [0, 2, 0] [6, 2, 4]]) sl28 ty35 ze35 (by decide) rfl rfl rfl rfl (by decide) (by decide) (fun _ => rfl) rfl) rfl rfl ?_;refine yq zoo ?_;refine ya ?_;refine zat rfl rfl rfl ?_;iterate 3 refine ya ?_
 refine zat rfl rfl rfl ?_;refine ya ?_;refine zat rfl rfl rfl ?_;refine yn ?_;refine X.ret ?_;refine ym ?_;all_goals (first | rfl | simp)
end Go.Rse
namespace Go.Rse
open Go Go.Proofs
section
variable (m : Mn) (l : List Sg)
end
end Go.Rse
namespace Go.Rse
open Go Go.Proofs
section
variable (m : Mn) (l : List Sg)
end
end Go.Rse
namespace Go.Rse
open Go Go.Proofs
end Go.Rse
namespace Go.Rse
open Go Go.Proofs
attribute [local irreducible] Pur yx yz Ex X Fn Imp LeV LeB FnO It yC
attribute [local irreducible] abvK rnK rnV rnS
theorem zW (m : Mn) (v : Int) (h8 : v <= 1000000) : Fn Tryz.prog 31 [mnA m, iv v] (.bool (abvK m v)) := by
 refine Fn.go Tryz.func31 Tryz.ntmps31 (fun g w d => ?_);apply yb;refine yF ?_;refine ye ?_;apply yd;apply yb;refine ye ?_;apply X.block
 refine zh (ι := Nat) (fun (k : Nat) => [(1, iv v), (2, .ptr 2 0 0 0), (5, iv (1 + (k : Int)))]) (fun (k : Nat) => [(2, .box (mnE m) 24)]) (fun (k : Nat) => (k : Int) <= 1000000 /\ ∀ u, 1 <= u -> u < 1 + (k : Int) -> ¬ m.p u = 3) (fun (k : Nat) => v.toNat - k) 0 (fun k hk => ?_) (hJ := by
  exact ⟨by omega, fun u h1 h2 => by omega⟩)
 obtain ⟨hk1, hk2⟩ := hk;apply yd;apply yb;refine yn ?_;refine yk rfl ?_ ?_<;>intro hc1
 ·apply yf;apply yd;apply X.block;apply yb;iterate 2 refine ya ?_
  refine yq (zdZ m (1 + (k : Int))) ?_;refine ye ?_;refine yk rfl ?_ ?_<;>intro hc2
  ·apply yb;refine ye ?_;refine X.ret ?_;refine ym ?_;all_goals (congr 1; exact (zlT (by omega) hc1 hc2).symm)
  apply yf;apply yc;refine yn ?_
  refine yP (k + 1) (hJ := by
   refine ⟨by omega, fun u h1 h2 => ?_⟩;by_cases e : u = 1 + (k : Int)
   ·rw [e]; exact hc2
   ·exact hk2 u h1 (by omega))
 ·apply X.exit;apply yb;refine ye ?_;refine X.ret ?_;refine ym ?_;all_goals (congr 1; exact (zkf fun u h1 h2 => hk2 u h1 (by omega)).symm)
set_option maxHeartbeats 2000000 in
theorem zfh (m : Mn) (nums : List Int) (most : Int) (h0 : 0 <= most) (h1 : most <= 1000) (hr : ∀ x, x ∈ nums -> -9223372036854775808 <= x /\ x <= 9223372036854775807) (hnl : nums.length <= maxLen) : Fn Tryz.prog 8 [mnA m, yg nums, iv most] (sgsA (rnL m nums most)) := by
 have hnl2 : nums.length <= 9223372036854775807 := hnl;have hq0 : [] = rnK m nums most 0 := by unfold rnK; rfl
 refine Fn.go Tryz.func8 Tryz.ntmps8 (fun g w d => ?_);apply yb;refine yF ?_;refine ye ?_;apply yb;refine y2 intE [3, 4, 4, 5, 5, 3, 2, 6] ?_;refine ye ?_;apply yd;refine X.imp (Imp.freeze (k := 13) rfl) ?_;apply yc;refine ye ?_;iterate 2 apply yd
 refine X.imp (y5 sgE 40 17 8 8 rfl rfl) ?_;apply yc;refine ye ?_;apply X.block
 refine zh (ι := Nat) (fun (k : Nat) => [(1, yg nums), (2, iv most), (3, .ptr 3 0 0 0), (7, yg [3, 4, 4, 5, 5, 3, 2, 6]), (8, .own 8), (9, iv (k : Int))]) (fun (k : Nat) => [(3, .box (mnE m) 24), (8, .row sgE (rnK m nums most k) 40 17)]) (fun (k : Nat) => k <= nums.length) (fun (k : Nat) => nums.length - k) 0 (fun k hk => ?_) (h0 := by
  exact yw)
 apply yd;apply yb;iterate 4 refine ya ?_
 refine ExF.at 4 ?_;refine yI ?_;iterate 4 refine ExF.gi ?_
 refine yA ?_;refine ye ?_;refine yk rfl ?_ ?_<;>intro hc1
 ·obtain ⟨x, hx⟩ : ∃ x, nums[k]? = some x := ⟨_, lgg (by omega)⟩;have hx2 : nums[(k : Int).toNat]? = some x := by simpa using hx
  have hxr := hr x (List.mem_of_getElem? hx);have h504 : 0 <= x % 504 /\ x % 504 < 504 := by omega
  have hml := zhF m nums h0 k;have hv := zn1 (x % 504);have hvr := zkg (x % 504);apply yf;apply yd;apply X.block;apply yb;iterate 4 refine ya ?_
  refine yq (zcr x 504 hxr (by omega)) ?_;refine ye ?_;apply yb;iterate 8 refine ya ?_
  refine yH ?_;refine Ex.mo ?_;apply Ex.nil;apply yd;apply yb;refine yn ?_;apply X.block;apply yb;refine yh ?_;refine yk rfl ?_ ?_<;>intro hc2
  ·have hS : rnS k (x % 504) = ⟨2, rnV (x % 504), 0, 0, false, 0, false, false, ⟨0, 0, 0, 0⟩, false, 0, 0, 0, 0⟩ := by unfold rnS; rw [if_pos hc2]
   apply yc;(iterate 3 refine ya ?_);refine Ex.mo ?_;apply Ex.nil;apply yb;(iterate 2 refine ya ?_);refine y2 sgE [⟨2, rnV (x % 504), 0, 0, false, 0, false, false, ⟨0, 0, 0, 0⟩, false, 0, 0, 0, 0⟩] ?_;refine Ex.mo ?_;refine ye ?_;apply yb;(iterate 3 refine ya ?_);refine ExF.at 3 ?_;refine yI ?_;(iterate 4 refine ExF.gi ?_);refine yA ?_;refine yh ?_;apply yb;refine ya ?_;refine ExF.at 1 ?_;refine yI ?_;(iterate 7 refine ExF.gi ?_);refine ExF.cg (zW m (rnV (x % 504)) (by omega)) ?_;refine ExF.gi ?_;refine yA ?_;refine ye ?_;refine yk rfl ?_ ?_<;>intro hc3
   ·have hrow := zd0 hS hx hc1.2 hc3;apply yc;(iterate 2 refine ya ?_);refine y2 sgE [zeU] ?_;refine Ex.mo ?_;refine ye ?_;apply yc;refine yn ?_;refine yP (k + 1) (hI := yw)
   ·have hrow := zd1 hS hx hc1.2 hc3;apply yf;apply yc;refine yn ?_;refine yP (k + 1) (hI := yw)
  ·apply yd;apply yb;refine yh ?_;refine yk rfl ?_ ?_<;>intro hc4
   ·apply yf;refine yk rfl ?_ ?_<;>intro hc5
    ·have hS : rnS k (x % 504) = ⟨1, rnV (x % 504), (k : Int) % 9, 0, true, 0, false, false, ⟨0, 0, 0, 0⟩, false, 0, 0, 0, 0⟩ := by unfold rnS; rw [if_neg hc2, hc4]; rfl
     apply yc;refine ya ?_;refine Ex.mo ?_;apply Ex.nil;apply yb;(iterate 2 refine ya ?_);refine y2 sgE [⟨1, rnV (x % 504), (k : Int) % 9, 0, true, 0, false, false, ⟨0, 0, 0, 0⟩, false, 0, 0, 0, 0⟩] ?_;refine Ex.mo ?_;refine ye ?_;apply yb;(iterate 3 refine ya ?_);refine ExF.at 3 ?_;refine yI ?_;(iterate 4 refine ExF.gi ?_);refine yA ?_;refine yh ?_;apply yb;refine ya ?_;refine ExF.at 1 ?_;refine yI ?_;(iterate 7 refine ExF.gi ?_);refine ExF.cg (zW m (rnV (x % 504)) (by omega)) ?_;refine ExF.gi ?_;refine yA ?_;refine ye ?_;refine yk rfl ?_ ?_<;>intro hc6
     ·have hrow := zd0 hS hx hc1.2 hc6;apply yc;(iterate 2 refine ya ?_);refine y2 sgE [zeU] ?_;refine Ex.mo ?_;refine ye ?_;apply yc;refine yn ?_;refine yP (k + 1) (hI := yw)
     ·have hrow := zd1 hS hx hc1.2 hc6;apply yf;apply yc;refine yn ?_;refine yP (k + 1) (hI := yw)
    ·omega
   ·apply yc;refine yh ?_;refine yk rfl ?_ ?_<;>intro hc7
    ·have hS : rnS k (x % 504) = ⟨1, rnV (x % 504), (k : Int) % 9, 0, true, 0, false, false, ⟨0, 0, 0, 0⟩, false, 0, 0, 0, 0⟩ := by unfold rnS; rw [if_neg hc2, hc7]; rfl
     apply yc;refine ya ?_;refine Ex.mo ?_;apply Ex.nil;apply yb;(iterate 2 refine ya ?_);refine y2 sgE [⟨1, rnV (x % 504), (k : Int) % 9, 0, true, 0, false, false, ⟨0, 0, 0, 0⟩, false, 0, 0, 0, 0⟩] ?_;refine Ex.mo ?_;refine ye ?_;apply yb;(iterate 3 refine ya ?_);refine ExF.at 3 ?_;refine yI ?_;(iterate 4 refine ExF.gi ?_);refine yA ?_;refine yh ?_;apply yb;refine ya ?_;refine ExF.at 1 ?_;refine yI ?_;(iterate 7 refine ExF.gi ?_);refine ExF.cg (zW m (rnV (x % 504)) (by omega)) ?_;refine ExF.gi ?_;refine yA ?_;refine ye ?_;refine yk rfl ?_ ?_<;>intro hc8
     ·have hrow := zd0 hS hx hc1.2 hc8;apply yc;(iterate 2 refine ya ?_);refine y2 sgE [zeU] ?_;refine Ex.mo ?_;refine ye ?_;apply yc;refine yn ?_;refine yP (k + 1) (hI := yw)
     ·have hrow := zd1 hS hx hc1.2 hc8;apply yf;apply yc;refine yn ?_;refine yP (k + 1) (hI := yw)
    ·have hS : rnS k (x % 504) = ⟨1, rnV (x % 504), (k : Int) % 9, 0, false, 0, false, false, ⟨0, 0, 0, 0⟩, false, 0, 0, 0, 0⟩ := by unfold rnS; rw [if_neg hc2, decide_eq_false hc4, decide_eq_false hc7]; rfl
     apply yf;apply yb;(iterate 2 refine ya ?_);refine y2 sgE [⟨1, rnV (x % 504), (k : Int) % 9, 0, false, 0, false, false, ⟨0, 0, 0, 0⟩, false, 0, 0, 0, 0⟩] ?_;refine Ex.mo ?_;refine ye ?_;apply yb;(iterate 3 refine ya ?_);refine ExF.at 3 ?_;refine yI ?_;(iterate 4 refine ExF.gi ?_);refine yA ?_;refine yh ?_;apply yb;refine ya ?_;refine ExF.at 1 ?_;refine yI ?_;(iterate 7 refine ExF.gi ?_);refine ExF.cg (zW m (rnV (x % 504)) (by omega)) ?_;refine ExF.gi ?_;refine yA ?_;refine ye ?_;refine yk rfl ?_ ?_<;>intro hc9
     ·have hrow := zd0 hS hx hc1.2 hc9;apply yc;(iterate 2 refine ya ?_);refine y2 sgE [zeU] ?_;refine Ex.mo ?_;refine ye ?_;apply yc;refine yn ?_;refine yP (k + 1) (hI := yw)
     ·have hrow := zd1 hS hx hc1.2 hc9;apply yf;apply yc;refine yn ?_;refine yP (k + 1) (hI := yw)
 ·have hfin : rnK m nums most k = rnL m nums most := zqt (by omega) hc1;apply X.exit;apply yb;refine yh ?_;refine X.ret ?_;refine RetQ.imp (Imp.freeze (k := 8) rfl) ?_;refine ym ?_;all_goals (rw [← hfin]; rfl)
end Go.Rse
namespace Go.Rse
open Go Go.Proofs
attribute [local irreducible] Pur yx yz Ex X Fn Imp LeV LeB FnO It yC FnW FnOW
attribute [local irreducible] abvK rnK rnV rnS aqV aqE rnL mMk
end Go.Rse
namespace Go.Rse
open Go Go.Proofs
attribute [local irreducible] Pur yx yz Ex X Fn Imp LeV LeB FnO It yC FnW FnOW
end Go.Rse
namespace Go.Rse
open Go Go.Proofs
attribute [local irreducible] Pur yx yz Ex X Fn Imp LeV LeB FnO It yC FnW FnOW
end Go.Rse
namespace Go.Rse
open Go Go.Proofs
attribute [local irreducible] Pur yx yz Ex X Fn Imp LeV LeB FnO It yC FnW FnOW
end Go.Rse
namespace Go.Rse
open Go Go.Proofs
section
variable {m : Mn} {k : Int}
end
section
variable {m : Mn} {l : List Sg}
end
end Go.Rse
