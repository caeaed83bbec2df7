/-
  Walks: the test of a reading.
-/
import Derived.Test.YtbilklnipfabpaaGreatDoorPJCho8
import Derived.Test.YtbilklnipfabpaaGreatDoorPJItem3
import Derived.Test.YtbilklnipfabpaaGreatDoorPJCmb1
set_option linter.unusedSimpArgs false
set_option linter.unusedVariables false
namespace Go.Rse
open Go Go.Proofs
attribute [local irreducible] Pur yx yz Ex X Fn Imp LeV LeB FnO It yC FnW FnOW
def isS (m : Mn) (L : List Int) (I : List Ite) (C : List Int) : Nat -> List Ite × List Int
 | 0 => (I, C)
 | n + 1 => (apV m (L.getD n 0) (isS m L I C n).1 ((isS m L I C n).2.take (segV m (L.getD n 0) (isS m L I C n).1).length), (isS m L I C n).2.drop (segV m (L.getD n 0) (isS m L I C n).1).length)
structure IsJ (m : Mn) (L : List Int) (I : List Ite) (C : List Int) (n : Nat) : Prop where
 le : n <= L.length
 go : isG m L I C = isG m (L.drop n) (isS m L I C n).1 (isS m L I C n).2
 len : (isS m L I C n).1.length <= I.length
 cl : (isS m L I C n).2.length <= C.length
section
variable {m : Mn} {L : List Int} {I : List Ite} {C : List Int} {n : Nat} {k : Int}
theorem zr4 : IsJ m L I C 0 := ⟨Nat.zero_le _, rfl, Nat.le_refl _, Nat.le_refl _⟩
theorem zlM (hk : L[n]? = some k) : apV m k (isS m L I C n).1 ((isS m L I C n).2.take (segV m k (isS m L I C n).1).length) = (isS m L I C (n + 1)).1 /\ (isS m L I C n).2.drop (segV m k (isS m L I C n).1).length = (isS m L I C (n + 1)).2 := by
 have e : L.getD n 0 = k := by rw [List.getD_eq_getElem?_getD, hk]; rfl
 show _ = apV m (L.getD n 0) (isS m L I C n).1 ((isS m L I C n).2.take (segV m (L.getD n 0) (isS m L I C n).1).length) /\ _ = (isS m L I C n).2.drop (segV m (L.getD n 0) (isS m L I C n).1).length;rw [e]; exact ⟨rfl, rfl⟩
theorem zlN (h : IsJ m L I C n) (hk : L[n]? = some k) : isG m L I C = if segE m k (isS m L I C n).1 = 0 /\ (segV m k (isS m L I C n).1).length <= (isS m L I C n).2.length /\ apE m k (isS m L I C n).1 ((isS m L I C n).2.take (segV m k (isS m L I C n).1).length) = 0 then isG m (L.drop (n + 1)) (isS m L I C (n + 1)).1 (isS m L I C (n + 1)).2 else none := by
 have hlt := List.getElem?_eq_some_iff.1 hk;obtain ⟨e1, e2⟩ := zlM (m := m) (I := I) (C := C) hk;rw [h.go, List.drop_eq_getElem_cons hlt.1, hlt.2];conv => lhs; unfold isG
 rw [e1, e2]
theorem IsJ.s (h : IsJ m L I C n) (hk : L[n]? = some k) (h1 : segE m k (isS m L I C n).1 = 0) (h2 : (segV m k (isS m L I C n).1).length <= (isS m L I C n).2.length) (h3 : apE m k (isS m L I C n).1 ((isS m L I C n).2.take (segV m k (isS m L I C n).1).length) = 0) : IsJ m L I C (n + 1) := by
 have hlt := List.getElem?_eq_some_iff.1 hk;obtain ⟨e1, e2⟩ := zlM (m := m) (I := I) (C := C) hk;refine ⟨hlt.1, by rw [zlN h hk, if_pos ⟨h1, h2, h3⟩], ?_, ?_⟩
 ·rw [← e1, zkx h3]; exact h.len
 ·rw [← e2, List.length_drop]; have := h.cl; omega
theorem IsJ.bad (h : IsJ m L I C n) (hk : L[n]? = some k) (hb : ¬ (segE m k (isS m L I C n).1 = 0 /\ (segV m k (isS m L I C n).1).length <= (isS m L I C n).2.length /\ apE m k (isS m L I C n).1 ((isS m L I C n).2.take (segV m k (isS m L I C n).1).length) = 0)) : isG m L I C = none := by
 rw [zlN h hk, if_neg hb]
theorem IsJ.fin (h : IsJ m L I C n) (hn : n = L.length) : isG m L I C = some ((isS m L I C n).1, (isS m L I C n).2) := by
 rw [h.go, hn, List.drop_length]; rfl
end
theorem ziw {m : Mn} {l : List Sg} {r : Rdg} (h : isG m (perfL m) (itmV m l r.Dots r.Minor) r.Choices = none) : isqB m l r = false := by
 unfold isqB; rw [h]; simp
theorem zqm {m : Mn} {l : List Sg} {r : Rdg} (h : ¬ itmE m l r.Dots r.Minor = 0) : isqB m l r = false := by
 unfold isqB; rw [decide_eq_false h]; rfl
theorem zlO {m : Mn} {l : List Sg} {r : Rdg} {J : List Ite} {D : List Int} (h0 : itmE m l r.Dots r.Minor = 0) (h : isG m (perfL m) (itmV m l r.Dots r.Minor) r.Choices = some (J, D)) : isqB m l r = (decide ((D.length : Int) = 0) && decide (J.map (fun x => x.Dur) = r.Durs)) := by
 unfold isqB; rw [h, decide_eq_true h0, Bool.true_and];show (decide (D = []) && _) = _;congr 1;cases D <;> simp;omega
def isV (m : Mn) (l : List Sg) (r : Rdg) : Bool := decide (ckD m l = 0) && isqB m l r
attribute [local irreducible] segE segV apV apE isqB isG isS itmV itmE perfL
theorem zdB (x t : Tm) : Fn Tryz.prog 51 [tmA x, tmA t] (.bool (decide (x = t))) := by
 refine Fn.go Tryz.func51 Tryz.ntmps51 (fun g w d => ?_);apply yb;iterate 2 refine yF ?_
 refine ya ?_;apply yj;refine ze ?_;refine X.ret ?_;refine ym ?_;all_goals (first | rfl | (simp_all; done))
theorem zdY (l : List Ite) (hl : l.length <= 100000) : Fn Tryz.prog 50 [itsA l] (tmsA (l.map (·.Dur))) := by
 have hz0 : [] = (l.take 0).map (fun x => x.Dur) := by simp
 refine Fn.go Tryz.func50 Tryz.ntmps50 (fun g w d => ?_);apply yb;refine ya ?_;apply yj;refine ye ?_;iterate 2 apply yd
 refine X.imp (y5 tmE 104 2 3 30 rfl rfl) ?_;apply yc;refine yn ?_;apply X.block
 refine zh (ι := Nat) (fun (n : Nat) => [(3, .own 30), (6, itsA l), (7, iv l.length), (8, iv (n : Int))]) (fun (n : Nat) => [(30, .row tmE ((l.take n).map (fun x => x.Dur)) 104 2)]) (fun (n : Nat) => n <= l.length) (fun (n : Nat) => l.length - n) 0 (fun n hk => ?_) (h0 := by
  exact yw)
 apply yb;refine ye ?_;apply yd;refine yk rfl ?_ ?_<;>intro hc1
 ·obtain ⟨x, hx⟩ : ∃ x, l[n]? = some x := ⟨_, lgg (by omega)⟩;have hx2 : l[(n : Int).toNat]? = some x := by simpa using hx
  have hst := zmr hx;have hlt : ((l.take n).map (fun x => x.Dur)).length <= 100000 := by rw [List.length_map, List.length_take]; omega
  apply yf;apply yd;apply X.block;apply yb;iterate 2 refine ya ?_
  refine yH ?_;refine Ex.mo ?_;apply Ex.nil;apply yc;iterate 4 refine ya ?_
  refine y2 tmE [x.Dur] ?_;refine Ex.mo ?_;refine ye ?_;apply yc;refine yh ?_;refine yP (n + 1) (hI := yw)
 ·obtain rfl : n = l.length := by omega
  have hV : (l.take l.length).map (fun x => x.Dur) = l.map (·.Dur) := by rw [List.take_length]
  apply X.exit;apply yb;refine yh ?_;refine X.ret ?_;refine RetQ.imp (Imp.freeze (k := 30) rfl) ?_;refine ym ?_;all_goals (exact congrArg (fun z => tmsA z) hV)
theorem zf (a b : List Tm) (hl : a.length <= 4000000000) : Fn Tryz.prog 49 [tmsA a, tmsA b, .fn 51 []] (.bool (decide (a = b))) := by
 refine Fn.go Tryz.func49 Tryz.ntmps49 (fun g w d => ?_);apply yb;refine ye ?_;apply yd;apply yb;refine ze ?_;refine yk rfl ?_ ?_<;>intro hc1
 ·have hD : decide (a = b) = false := by rw [decide_eq_false_iff_not]; intro h; subst h; exact hc1 rfl
  apply yb;refine ye ?_;refine X.ret ?_;refine ym ?_;all_goals (rw [hD])
 have hlen : a.length = b.length := by omega
 apply yf;apply yd;apply yb;refine yn ?_;apply X.block
 refine zh (ι := Nat) (fun (k : Nat) => [(1, tmsA b), (2, .fn 51 []), (15, tmsA a), (16, iv a.length), (17, iv (k : Int))]) (fun (k : Nat) => []) (fun (k : Nat) => k <= a.length /\ a.take k = b.take k) (fun (k : Nat) => a.length - k) 0 (fun k hk => ?_) (hJ := by
  exact ⟨by omega, by simp⟩)
 obtain ⟨hk1, hk2⟩ := hk;apply yb;refine ye ?_;apply yd;refine yk rfl ?_ ?_<;>intro hc2
 ·obtain ⟨x, hx⟩ : ∃ x, a[k]? = some x := ⟨_, lgg (by omega)⟩;have hx2 : a[(k : Int).toNat]? = some x := by simpa using hx
  obtain ⟨y, hy⟩ : ∃ y, b[k]? = some y := ⟨_, lgg (by omega)⟩;have hy2 : b[(k : Int).toNat]? = some y := by simpa using hy
  apply yf;apply yd;apply X.block;apply yb;iterate 3 refine ya ?_
  refine yH ?_;refine ya ?_;refine Ex.mo ?_;apply yj;iterate 4 refine ya ?_
  refine yH ?_;refine Ex.mo ?_;apply yj;iterate 3 refine ya ?_
  refine yq (zdB x y) ?_;refine ye ?_;refine yk rfl ?_ ?_<;>intro hc3
  ·have hD : decide (a = b) = false := by rw [decide_eq_false_iff_not]; intro h; subst h; rw [hx] at hy; injection hy with hy; exact (by simpa using hc3 : ¬ x = y) hy
   apply yb;refine ye ?_;refine X.ret ?_;refine ym ?_;all_goals (rw [hD])
  apply yf;apply yc;refine yh ?_
  refine yP (k + 1) (hJ := by
   exact ⟨by omega, by rw [← zbo hx, ← zbo hy, hk2, (by simpa using hc3 : x = y)]⟩)
 ·have hD : decide (a = b) = true := by
   have h1 : k = a.length := by omega
   rw [decide_eq_true_iff]; subst h1; rw [List.take_length, hlen, List.take_length] at hk2; exact hk2
  apply X.exit;apply yb;refine ye ?_;refine X.ret ?_;refine ym ?_;all_goals (rw [hD])
set_option maxHeartbeats 4000000 in
theorem zhB (m : Mn) (l : List Sg) (r : Rdg) (hl : l.length <= 1000) (hm : r.Minor.length <= 1000) : Fn Tryz.prog 17 [mnA m, sgsA l, rdgA r] (.tup [.bool (isV m l r), iv (ckD m l)]) := by
 have hil := zf5 m l r.Dots r.Minor;have hz1 : itmV m l r.Dots r.Minor = (isS m (perfL m) (itmV m l r.Dots r.Minor) r.Choices 0).1 := by unfold isS; rfl
 have hz2 : r.Choices = (isS m (perfL m) (itmV m l r.Dots r.Minor) r.Choices 0).2 := by unfold isS; rfl
 refine Fn.go Tryz.func17 Tryz.ntmps17 (fun g w d => ?_);apply yb;iterate 2 refine yF ?_
 refine yh ?_;apply yd;apply yb;iterate 2 refine ya ?_
 refine yq (za2 m l hl) ?_;refine ya ?_;apply yj;refine yh ?_;refine yk rfl ?_ ?_<;>intro hc1
 ·have hV : isV m l r = false := by unfold isV; rw [decide_eq_false hc1]; rfl
  apply yb;refine yn ?_;refine X.ret ?_;refine yu ?_ ?_;all_goals (first | (rw [hV]; done) | (rw [hVq, hq]; done) | (rw [h0]; done) | rfl)
 have h0 : ckD m l = 0 := by omega
 have hM := (zd7 h0).1;have hL := zbP m;rw [hM, if_pos rfl] at hL;have hVq : isV m l r = isqB m l r := by unfold isV; rw [decide_eq_true h0]; rfl
 apply yf;apply yb;iterate 6 refine ya ?_
 refine yq (zd2 m l r.Dots r.Minor hl hm) ?_;refine ze ?_;apply yd;apply yb;refine yh ?_;refine yk rfl ?_ ?_<;>intro hc2
 ·have hq := zqm hc2;apply yb;refine yh ?_;refine X.ret ?_;refine yu ?_ ?_;all_goals (first | (rw [hV]; done) | (rw [hVq, hq]; done) | (rw [h0]; done) | rfl)
 have hi0 : itmE m l r.Dots r.Minor = 0 := by omega
 apply yf;apply yb;refine ya ?_;refine yq hL ?_;iterate 5 refine ya ?_
 apply yj;refine yn ?_;apply yd;apply yb;refine yn ?_;apply X.block
 refine zh (ι := Nat) (fun (n : Nat) => [(3, .ptr 3 0 0 0), (5, .ptr 5 0 0 0), (9, itsA (isS m (perfL m) (itmV m l r.Dots r.Minor) r.Choices n).1), (13, yg (isS m (perfL m) (itmV m l r.Dots r.Minor) r.Choices n).2), (43, yg (perfL m)), (44, iv ((perfL m).length : Int)), (45, iv (n : Int))]) (fun (n : Nat) => [(3, .box (mnE m) 24), (5, .box (rdgE r) 35)]) (fun (n : Nat) => IsJ m (perfL m) (itmV m l r.Dots r.Minor) r.Choices n) (fun (n : Nat) => (perfL m).length - n) 0 (fun n hk => ?_) (hJ := by
  exact zr4) (h0 := by
  exact yw)
 have hJ := hk;have hle := hJ.le;clear hk;have hp4 := zh2 m;apply yb;refine ye ?_;apply yd;refine yk rfl ?_ ?_<;>intro hc3
 ·obtain ⟨kk, hk⟩ : ∃ kk, (perfL m)[n]? = some kk := ⟨_, lgg (by omega)⟩;have hk2 : (perfL m)[(n : Int).toNat]? = some kk := by simpa using hk
  have hkb := zmF hk;have hsl := za1 m kk (isS m (perfL m) (itmV m l r.Dots r.Minor) r.Choices n).1;have hZ1 := zlM (m := m) (I := itmV m l r.Dots r.Minor) (C := r.Choices) hk;obtain ⟨e1, e2⟩ := hZ1;apply yf;apply yd;apply X.block;apply yb;iterate 3 refine ya ?_
  apply yj;iterate 3 refine ya ?_
  refine yq (zae m kk (isS m (perfL m) (itmV m l r.Dots r.Minor) r.Choices n).1 (by omega) (by omega) (by have := hJ.len; omega)) ?_;refine ze ?_;apply yd;apply yb;iterate 2 refine ya ?_
  refine ExF.at 2 ?_;refine yI ?_;iterate 5 refine ExF.gi ?_
  refine yA ?_;refine ye ?_;refine yk rfl ?_ ?_<;>intro hc4
  ·have hq := ziw (hJ.bad hk (by rintro ⟨a1, a2, a3⟩; omega));apply yb;refine yh ?_;refine X.ret ?_;refine yu ?_ ?_;all_goals (first | (rw [hV]; done) | (rw [hVq, hq]; done) | (rw [h0]; done) | rfl)
  have a1 : segE m kk (isS m (perfL m) (itmV m l r.Dots r.Minor) r.Choices n).1 = 0 := by omega
  have a2 : (segV m kk (isS m (perfL m) (itmV m l r.Dots r.Minor) r.Choices n).1).length <= (isS m (perfL m) (itmV m l r.Dots r.Minor) r.Choices n).2.length := by omega
  apply yf;iterate 2 apply yd
  refine X.drawQ [⟨0, 66, mnA m, []⟩, ⟨1, 67, iv kk, []⟩, ⟨2, 68, itsA (isS m (perfL m) (itmV m l r.Dots r.Minor) r.Choices n).1, []⟩, ⟨3, 69, yg (isS m (perfL m) (itmV m l r.Dots r.Minor) r.Choices n).2, []⟩, ⟨4, 70, smsA (segV m kk (isS m (perfL m) (itmV m l r.Dots r.Minor) r.Choices n).1), []⟩, ⟨5, 71, iv ((segV m kk (isS m (perfL m) (itmV m l r.Dots r.Minor) r.Choices n).1).length : Int), [4]⟩, ⟨6, 72, yg ((isS m (perfL m) (itmV m l r.Dots r.Minor) r.Choices n).2.take (segV m kk (isS m (perfL m) (itmV m l r.Dots r.Minor) r.Choices n).1).length), [4, 5, 3]⟩, ⟨8, 65, .tup [itsA (apV m kk (isS m (perfL m) (itmV m l r.Dots r.Minor) r.Choices n).1 ((isS m (perfL m) (itmV m l r.Dots r.Minor) r.Choices n).2.take (segV m kk (isS m (perfL m) (itmV m l r.Dots r.Minor) r.Choices n).1).length)), iv (apE m kk (isS m (perfL m) (itmV m l r.Dots r.Minor) r.Choices n).1 ((isS m (perfL m) (itmV m l r.Dots r.Minor) r.Choices n).2.take (segV m kk (isS m (perfL m) (itmV m l r.Dots r.Minor) r.Choices n).1).length))], [4, 5, 3, 6, 2, 1, 0, 7]⟩, ⟨9, 74, itsA (apV m kk (isS m (perfL m) (itmV m l r.Dots r.Minor) r.Choices n).1 ((isS m (perfL m) (itmV m l r.Dots r.Minor) r.Choices n).2.take (segV m kk (isS m (perfL m) (itmV m l r.Dots r.Minor) r.Choices n).1).length)), [4, 5, 3, 6, 2, 1, 0, 7, 8]⟩, ⟨10, 75, iv (apE m kk (isS m (perfL m) (itmV m l r.Dots r.Minor) r.Choices n).1 ((isS m (perfL m) (itmV m l r.Dots r.Minor) r.Choices n).2.take (segV m kk (isS m (perfL m) (itmV m l r.Dots r.Minor) r.Choices n).1).length)), [4, 5, 3, 6, 2, 1, 0, 7, 8]⟩] [(7, [4, 5, 3, 6, 2, 1, 0]), (11, [8, 6, 5, 4, 3, 2, 1, 0, 7, 9]), (12, [9, 8, 7, 6, 5, 4, 3, 2, 1, 0, 11, 10])] (fun j => match j with | 0 => ⟨[(3, .ptr 3 0 0 0), (5, .ptr 5 0 0 0), (9, itsA (isS m (perfL m) (itmV m l r.Dots r.Minor) r.Choices n).1), (13, yg (isS m (perfL m) (itmV m l r.Dots r.Minor) r.Choices n).2), (15, iv kk), (16, smsA (segV m kk (isS m (perfL m) (itmV m l r.Dots r.Minor) r.Choices n).1)), (43, yg (perfL m)), (44, iv ((perfL m).length : Int)), (45, iv (n : Int))], [(3, .box (mnE m) 24), (5, .box (rdgE r) 35)]⟩ | 1 => ⟨[(3, .ptr 3 0 0 0), (5, .ptr 5 0 0 0), (9, itsA (isS m (perfL m) (itmV m l r.Dots r.Minor) r.Choices n).1), (13, yg (isS m (perfL m) (itmV m l r.Dots r.Minor) r.Choices n).2), (15, iv kk), (16, smsA (segV m kk (isS m (perfL m) (itmV m l r.Dots r.Minor) r.Choices n).1)), (43, yg (perfL m)), (44, iv ((perfL m).length : Int)), (45, iv (n : Int)), (73, .tup [itsA (apV m kk (isS m (perfL m) (itmV m l r.Dots r.Minor) r.Choices n).1 ((isS m (perfL m) (itmV m l r.Dots r.Minor) r.Choices n).2.take (segV m kk (isS m (perfL m) (itmV m l r.Dots r.Minor) r.Choices n).1).length)), iv (apE m kk (isS m (perfL m) (itmV m l r.Dots r.Minor) r.Choices n).1 ((isS m (perfL m) (itmV m l r.Dots r.Minor) r.Choices n).2.take (segV m kk (isS m (perfL m) (itmV m l r.Dots r.Minor) r.Choices n).1).length))])], [(3, .box (mnE m) 24), (5, .box (rdgE r) 35)]⟩ | 2 => ⟨[(3, .ptr 3 0 0 0), (5, .ptr 5 0 0 0), (9, itsA (apV m kk (isS m (perfL m) (itmV m l r.Dots r.Minor) r.Choices n).1 ((isS m (perfL m) (itmV m l r.Dots r.Minor) r.Choices n).2.take (segV m kk (isS m (perfL m) (itmV m l r.Dots r.Minor) r.Choices n).1).length))), (13, yg (isS m (perfL m) (itmV m l r.Dots r.Minor) r.Choices n).2), (15, iv kk), (16, smsA (segV m kk (isS m (perfL m) (itmV m l r.Dots r.Minor) r.Choices n).1)), (43, yg (perfL m)), (44, iv ((perfL m).length : Int)), (45, iv (n : Int)), (73, .tup [itsA (apV m kk (isS m (perfL m) (itmV m l r.Dots r.Minor) r.Choices n).1 ((isS m (perfL m) (itmV m l r.Dots r.Minor) r.Choices n).2.take (segV m kk (isS m (perfL m) (itmV m l r.Dots r.Minor) r.Choices n).1).length)), iv (apE m kk (isS m (perfL m) (itmV m l r.Dots r.Minor) r.Choices n).1 ((isS m (perfL m) (itmV m l r.Dots r.Minor) r.Choices n).2.take (segV m kk (isS m (perfL m) (itmV m l r.Dots r.Minor) r.Choices n).1).length))])], [(3, .box (mnE m) 24), (5, .box (rdgE r) 35)]⟩ | _ => ⟨[(3, .ptr 3 0 0 0), (5, .ptr 5 0 0 0), (9, itsA (apV m kk (isS m (perfL m) (itmV m l r.Dots r.Minor) r.Choices n).1 ((isS m (perfL m) (itmV m l r.Dots r.Minor) r.Choices n).2.take (segV m kk (isS m (perfL m) (itmV m l r.Dots r.Minor) r.Choices n).1).length))), (13, yg (isS m (perfL m) (itmV m l r.Dots r.Minor) r.Choices n).2), (15, iv kk), (16, smsA (segV m kk (isS m (perfL m) (itmV m l r.Dots r.Minor) r.Choices n).1)), (43, yg (perfL m)), (44, iv ((perfL m).length : Int)), (45, iv (n : Int)), (73, .tup [itsA (apV m kk (isS m (perfL m) (itmV m l r.Dots r.Minor) r.Choices n).1 ((isS m (perfL m) (itmV m l r.Dots r.Minor) r.Choices n).2.take (segV m kk (isS m (perfL m) (itmV m l r.Dots r.Minor) r.Choices n).1).length)), iv (apE m kk (isS m (perfL m) (itmV m l r.Dots r.Minor) r.Choices n).1 ((isS m (perfL m) (itmV m l r.Dots r.Minor) r.Choices n).2.take (segV m kk (isS m (perfL m) (itmV m l r.Dots r.Minor) r.Choices n).1).length))]), (17, iv (apE m kk (isS m (perfL m) (itmV m l r.Dots r.Minor) r.Choices n).1 ((isS m (perfL m) (itmV m l r.Dots r.Minor) r.Choices n).2.take (segV m kk (isS m (perfL m) (itmV m l r.Dots r.Minor) r.Choices n).1).length)))], [(3, .box (mnE m) 24), (5, .box (rdgE r) 35)]⟩) mo (by kernel_rfl) (zbf (yi)) (fun j hj => ?_) (fun j c hc β hβ => ?_) ?_
  ·rcases j with _ | _ | _ | _ | j
   ·(iterate 6 refine ⟨.inr ⟨_, rfl, rfl, rfl, rfl, Pur.stepA yM⟩, ?_⟩);refine ⟨.inr ⟨_, rfl, rfl, rfl, rfl, Pur.stepA (ze9 (i := ((segV m kk (isS m (perfL m) (itmV m l r.Dots r.Minor) r.Choices n).1).length : Int)) rfl rfl sl22 ty3 (fun _ => rfl) (by omega) (by omega))⟩, ?_⟩;exact zj
   ·exact zj
   ·exact zj
   ·exact zj
   ·exact absurd (show j + 4 <= 3 from hj) (by omega)
  ·rcases j with _ | _ | _ | j
   ·obtain rfl : (7, [4, 5, 3, 6, 2, 1, 0]) = c := by injection hc
    refine yo rfl (yK (st0 := ⟨[(66, mnA m), (67, iv kk), (68, itsA (isS m (perfL m) (itmV m l r.Dots r.Minor) r.Choices n).1), (69, yg (isS m (perfL m) (itmV m l r.Dots r.Minor) r.Choices n).2), (70, smsA (segV m kk (isS m (perfL m) (itmV m l r.Dots r.Minor) r.Choices n).1)), (71, iv ((segV m kk (isS m (perfL m) (itmV m l r.Dots r.Minor) r.Choices n).1).length : Int)), (72, yg ((isS m (perfL m) (itmV m l r.Dots r.Minor) r.Choices n).2.take (segV m kk (isS m (perfL m) (itmV m l r.Dots r.Minor) r.Choices n).1).length)), (65, .ifb (β 8) (.tup [itsA (apV m kk (isS m (perfL m) (itmV m l r.Dots r.Minor) r.Choices n).1 ((isS m (perfL m) (itmV m l r.Dots r.Minor) r.Choices n).2.take (segV m kk (isS m (perfL m) (itmV m l r.Dots r.Minor) r.Choices n).1).length)), iv (apE m kk (isS m (perfL m) (itmV m l r.Dots r.Minor) r.Choices n).1 ((isS m (perfL m) (itmV m l r.Dots r.Minor) r.Choices n).2.take (segV m kk (isS m (perfL m) (itmV m l r.Dots r.Minor) r.Choices n).1).length))])), (74, .ifb (β 9) (itsA (apV m kk (isS m (perfL m) (itmV m l r.Dots r.Minor) r.Choices n).1 ((isS m (perfL m) (itmV m l r.Dots r.Minor) r.Choices n).2.take (segV m kk (isS m (perfL m) (itmV m l r.Dots r.Minor) r.Choices n).1).length)))), (75, .ifb (β 10) (iv (apE m kk (isS m (perfL m) (itmV m l r.Dots r.Minor) r.Choices n).1 ((isS m (perfL m) (itmV m l r.Dots r.Minor) r.Choices n).2.take (segV m kk (isS m (perfL m) (itmV m l r.Dots r.Minor) r.Choices n).1).length)))), (3, .ptr 3 0 0 0), (5, .ptr 5 0 0 0), (9, itsA (isS m (perfL m) (itmV m l r.Dots r.Minor) r.Choices n).1), (13, yg (isS m (perfL m) (itmV m l r.Dots r.Minor) r.Choices n).2), (15, iv kk), (16, smsA (segV m kk (isS m (perfL m) (itmV m l r.Dots r.Minor) r.Choices n).1)), (43, yg (perfL m)), (44, iv ((perfL m).length : Int)), (45, iv (n : Int))], [(3, .box (mnE m) 24), (5, .box (rdgE r) 35)]⟩) (yG) ?_);refine yz.imp (yr (zar rfl rfl rfl (LeL.refl _) (zdv m kk (isS m (perfL m) (itmV m l r.Dots r.Minor) r.Choices n).1 ((isS m (perfL m) (itmV m l r.Dots r.Minor) r.Choices n).2.take (segV m kk (isS m (perfL m) (itmV m l r.Dots r.Minor) r.Choices n).1).length) (by omega) (by omega) (by have := hJ.len; omega) (by rw [List.length_take]; have := hJ.len; omega))) rfl rfl) (yG)
   ·obtain rfl : (11, [8, 6, 5, 4, 3, 2, 1, 0, 7, 9]) = c := by injection hc
    refine yo rfl (yK (st0 := ⟨[(66, mnA m), (67, iv kk), (68, itsA (isS m (perfL m) (itmV m l r.Dots r.Minor) r.Choices n).1), (69, yg (isS m (perfL m) (itmV m l r.Dots r.Minor) r.Choices n).2), (70, smsA (segV m kk (isS m (perfL m) (itmV m l r.Dots r.Minor) r.Choices n).1)), (71, iv ((segV m kk (isS m (perfL m) (itmV m l r.Dots r.Minor) r.Choices n).1).length : Int)), (72, yg ((isS m (perfL m) (itmV m l r.Dots r.Minor) r.Choices n).2.take (segV m kk (isS m (perfL m) (itmV m l r.Dots r.Minor) r.Choices n).1).length)), (65, .tup [itsA (apV m kk (isS m (perfL m) (itmV m l r.Dots r.Minor) r.Choices n).1 ((isS m (perfL m) (itmV m l r.Dots r.Minor) r.Choices n).2.take (segV m kk (isS m (perfL m) (itmV m l r.Dots r.Minor) r.Choices n).1).length)), iv (apE m kk (isS m (perfL m) (itmV m l r.Dots r.Minor) r.Choices n).1 ((isS m (perfL m) (itmV m l r.Dots r.Minor) r.Choices n).2.take (segV m kk (isS m (perfL m) (itmV m l r.Dots r.Minor) r.Choices n).1).length))]), (74, itsA (apV m kk (isS m (perfL m) (itmV m l r.Dots r.Minor) r.Choices n).1 ((isS m (perfL m) (itmV m l r.Dots r.Minor) r.Choices n).2.take (segV m kk (isS m (perfL m) (itmV m l r.Dots r.Minor) r.Choices n).1).length))), (75, .ifb (β 10) (iv (apE m kk (isS m (perfL m) (itmV m l r.Dots r.Minor) r.Choices n).1 ((isS m (perfL m) (itmV m l r.Dots r.Minor) r.Choices n).2.take (segV m kk (isS m (perfL m) (itmV m l r.Dots r.Minor) r.Choices n).1).length)))), (3, .ptr 3 0 0 0), (5, .ptr 5 0 0 0), (9, itsA (isS m (perfL m) (itmV m l r.Dots r.Minor) r.Choices n).1), (13, yg (isS m (perfL m) (itmV m l r.Dots r.Minor) r.Choices n).2), (15, iv kk), (16, smsA (segV m kk (isS m (perfL m) (itmV m l r.Dots r.Minor) r.Choices n).1)), (43, yg (perfL m)), (44, iv ((perfL m).length : Int)), (45, iv (n : Int)), (73, .tup [itsA (apV m kk (isS m (perfL m) (itmV m l r.Dots r.Minor) r.Choices n).1 ((isS m (perfL m) (itmV m l r.Dots r.Minor) r.Choices n).2.take (segV m kk (isS m (perfL m) (itmV m l r.Dots r.Minor) r.Choices n).1).length)), iv (apE m kk (isS m (perfL m) (itmV m l r.Dots r.Minor) r.Choices n).1 ((isS m (perfL m) (itmV m l r.Dots r.Minor) r.Choices n).2.take (segV m kk (isS m (perfL m) (itmV m l r.Dots r.Minor) r.Choices n).1).length))])], [(3, .box (mnE m) 24), (5, .box (rdgE r) 35)]⟩) (yG) ?_);refine yz.imp (yr (Pur.stepA yM) rfl rfl) (yG)
   ·obtain rfl : (12, [9, 8, 7, 6, 5, 4, 3, 2, 1, 0, 11, 10]) = c := by injection hc
    refine yo rfl (yK (st0 := ⟨[(66, mnA m), (67, iv kk), (68, itsA (isS m (perfL m) (itmV m l r.Dots r.Minor) r.Choices n).1), (69, yg (isS m (perfL m) (itmV m l r.Dots r.Minor) r.Choices n).2), (70, smsA (segV m kk (isS m (perfL m) (itmV m l r.Dots r.Minor) r.Choices n).1)), (71, iv ((segV m kk (isS m (perfL m) (itmV m l r.Dots r.Minor) r.Choices n).1).length : Int)), (72, yg ((isS m (perfL m) (itmV m l r.Dots r.Minor) r.Choices n).2.take (segV m kk (isS m (perfL m) (itmV m l r.Dots r.Minor) r.Choices n).1).length)), (65, .tup [itsA (apV m kk (isS m (perfL m) (itmV m l r.Dots r.Minor) r.Choices n).1 ((isS m (perfL m) (itmV m l r.Dots r.Minor) r.Choices n).2.take (segV m kk (isS m (perfL m) (itmV m l r.Dots r.Minor) r.Choices n).1).length)), iv (apE m kk (isS m (perfL m) (itmV m l r.Dots r.Minor) r.Choices n).1 ((isS m (perfL m) (itmV m l r.Dots r.Minor) r.Choices n).2.take (segV m kk (isS m (perfL m) (itmV m l r.Dots r.Minor) r.Choices n).1).length))]), (74, itsA (apV m kk (isS m (perfL m) (itmV m l r.Dots r.Minor) r.Choices n).1 ((isS m (perfL m) (itmV m l r.Dots r.Minor) r.Choices n).2.take (segV m kk (isS m (perfL m) (itmV m l r.Dots r.Minor) r.Choices n).1).length))), (75, iv (apE m kk (isS m (perfL m) (itmV m l r.Dots r.Minor) r.Choices n).1 ((isS m (perfL m) (itmV m l r.Dots r.Minor) r.Choices n).2.take (segV m kk (isS m (perfL m) (itmV m l r.Dots r.Minor) r.Choices n).1).length))), (3, .ptr 3 0 0 0), (5, .ptr 5 0 0 0), (9, itsA (apV m kk (isS m (perfL m) (itmV m l r.Dots r.Minor) r.Choices n).1 ((isS m (perfL m) (itmV m l r.Dots r.Minor) r.Choices n).2.take (segV m kk (isS m (perfL m) (itmV m l r.Dots r.Minor) r.Choices n).1).length))), (13, yg (isS m (perfL m) (itmV m l r.Dots r.Minor) r.Choices n).2), (15, iv kk), (16, smsA (segV m kk (isS m (perfL m) (itmV m l r.Dots r.Minor) r.Choices n).1)), (43, yg (perfL m)), (44, iv ((perfL m).length : Int)), (45, iv (n : Int)), (73, .tup [itsA (apV m kk (isS m (perfL m) (itmV m l r.Dots r.Minor) r.Choices n).1 ((isS m (perfL m) (itmV m l r.Dots r.Minor) r.Choices n).2.take (segV m kk (isS m (perfL m) (itmV m l r.Dots r.Minor) r.Choices n).1).length)), iv (apE m kk (isS m (perfL m) (itmV m l r.Dots r.Minor) r.Choices n).1 ((isS m (perfL m) (itmV m l r.Dots r.Minor) r.Choices n).2.take (segV m kk (isS m (perfL m) (itmV m l r.Dots r.Minor) r.Choices n).1).length))])], [(3, .box (mnE m) 24), (5, .box (rdgE r) 35)]⟩) (yG) ?_);refine yz.imp (yr (Pur.stepA yM) rfl rfl) (yG)
   ·exact absurd hc (by simp)
  apply yb;refine yh ?_;refine yk rfl ?_ ?_<;>intro hc5
  ·have hq := ziw (hJ.bad hk (by rintro ⟨_, _, a3⟩; exact hc5 a3));apply yb;refine yh ?_;refine X.ret ?_;refine yu ?_ ?_;all_goals (first | (rw [hV]; done) | (rw [hVq, hq]; done) | (rw [h0]; done) | rfl)
  have a3 : (apE m kk (isS m (perfL m) (itmV m l r.Dots r.Minor) r.Choices n).1 ((isS m (perfL m) (itmV m l r.Dots r.Minor) r.Choices n).2.take (segV m kk (isS m (perfL m) (itmV m l r.Dots r.Minor) r.Choices n).1).length)) = 0 := by omega
  apply yf;apply yc;iterate 3 refine ya ?_
  first
   | refine zO (zbe rfl rfl rfl sl22 ty3 (by omega) (by omega)) rfl ?_
   | refine zO (zfa rfl rfl sl22 ty3 (fun _ => rfl) (by omega) (by omega)) rfl ?_
  refine ye ?_;apply yc;refine yh ?_
  refine yP (n + 1) (hJ := by
   exact hJ.s hk a1 a2 a3) (hI := yw)
 ·obtain rfl : n = (perfL m).length := by omega
  have hq := zlO hi0 (hJ.fin rfl);apply X.exit;apply yd;refine zy [6,7,83,84,85,86,87,88,89,90,91,92] [0,1,3,7,15,31,15,79,255,511,1023,2047] mo ?_;iterate 4 refine yl ?_
  refine ChM.gi ?_;refine ChM.cg (zdY (isS m (perfL m) (itmV m l r.Dots r.Minor) r.Choices (perfL m).length).1 (by have := hJ.len; omega)) ?_;iterate 2 refine ChM.gi ?_
  refine ChM.cg (zf ((isS m (perfL m) (itmV m l r.Dots r.Minor) r.Choices (perfL m).length).1.map (·.Dur)) r.Durs (by rw [List.length_map]; have := hJ.len; omega)) ?_;iterate 3 refine yl ?_
  refine y7 ?_;apply Ex.nil;refine X.ret ?_;refine yu ?_ ?_;all_goals (first | (rw [hV]; done) | (rw [hVq, hq]; done) | (rw [h0]; done) | rfl)
end Go.Rse
namespace Go.Rse
open Go Go.Proofs
attribute [local irreducible] Pur yx yz Ex X Fn Imp LeV LeB FnO It yC FnW FnOW
theorem zqn (a b : Rdg) : (decide (a.Dots = b.Dots) && decide (a.Minor = b.Minor) && decide (a.Choices = b.Choices) && decide (a.Durs = b.Durs)) = decide (a = b) := by
 cases a; cases b; simp [Bool.and_assoc]
theorem zbW (a b : Rdg) (h1 : a.Dots.length <= 1000000) (h2 : a.Minor.length <= 1000000) (h3 : a.Choices.length <= 1000000) (h4 : a.Durs.length <= 1000000) : Fn Tryz.prog 16 [rdgA a, rdgA b] (.bool (decide (a = b))) := by
 refine Fn.go Tryz.func16 Tryz.ntmps16 (fun g w d => ?_);apply yb;iterate 2 refine yF ?_
 refine ya ?_;apply yj;iterate 4 refine ya ?_
 refine yq (z8 a.Dots b.Dots (by omega)) ?_;refine ExF.at 5 ?_;refine yI ?_;iterate 4 refine ExF.gi ?_
 refine ExF.cg (z8 a.Minor b.Minor (by omega)) ?_;iterate 2 refine yI ?_
 iterate 4 refine ExF.gi ?_
 refine ExF.cg (z8 a.Choices b.Choices (by omega)) ?_;iterate 2 refine yI ?_
 iterate 4 refine ExF.gi ?_
 refine ExF.cg (zcv a.Durs b.Durs (by omega)) ?_;refine yA ?_;refine yh ?_;refine X.ret ?_;refine ym ?_;all_goals (exact congrArg AV.bool (zqn a b))
end Go.Rse
