/-
  Walks.
-/
import Derived.Test.YtbopkhoalndflaaGreatDoorVJRul1
import Derived.Test.YtbopkhoalndflaaGreatDoorVJLev7
set_option linter.all false
namespace Go.Rse
open Go Go.Proofs Go.Proofs.Tryz
section
attribute [local irreducible] Pur yu yq Ex X Fn Imp LeV LeB FnO It yD FnW FnOW
def zvw {l : List Int} {k : Nat} {x y : Int} (hx : l[k]? = some x) (h : y ∉ l.take k) (Z : ¬ x = y) : y ∉ l.take (k + 1) := by
 rw [jE, hx];intro hm;rcases wG.1 hm with hm | hm
 ·exact h hm
 ·simp at hm; exact Z hm.symm
def zr2 {s : Sgm} {A : List Int} (h : (chF s A).isSome = true) : chF s A = some ((chF s A).getD 0) := by
 cases Z : chF s A with
 | none => rw [Z] at h; cases h
 | some c => rfl
def zvx {s : Sgm} {A : List Int} {x : Int} (e : x = (chF s A).getD (-1)) (h : x < 0) : chF s A = none := by
 cases Z : chF s A with
 | none => rfl
 | some c => have := zpu Z; rw [Z] at e; rw [e] at h; exact absurd (show c < 0 from h) (by omega)
def zvy {s : Sgm} {A : List Int} {x : Int} (e : x = (chF s A).getD (-1)) (h : 0 <= x) : chF s A = some x := by
 cases Z : chF s A with
 | none => rw [Z] at e; subst e; exact absurd h (by decide)
 | some c => rw [Z] at e; subst e; rfl
attribute [local irreducible] stK okJ alK alQ segV segE unT muF muI chF wnL wdF cuE cuV cuO mdJ
set_option maxHeartbeats 2000000 in
def zfn (m : Mn) (k : Int) (l : List Ite) (h0 : -9223372036854775808 <= k) (h1 : k <= 9223372036854775807) (hl : l.length <= 1000000) : Fn prog 255 [mnA m, iv k, itsA l] (.tup [yc (cuV m k l), iv (cuE m k l)]) := by
 have x4 := zaJ m k l;refine xV func255 ntmps255 (fun g w d => ?_);refine gc (zbP m k l h0 h1 hl) ?_;refine gd ?_ ?_<;>intro Q
 ·have N := zxa Q;obtain ⟨hE, V⟩ := N;apply ye;refine yy ?_;refine xU ?_;refine xQ (yd (ts := [(6, yc []), (7, iv (segE m k l))]) (hs := [])) ?_;refine yj ?_ ?_;all_goals (first | exact zE hE | exact zE V | exact j5 (fun z => yc z) V | exact j5 (fun z => AV.int .i64 z) hE.symm | (with_reducible rfl))
 have U : segE m k l = 0 := by omega
 have x3 : [] = muF m k l 0 := zA3.symm;apply yl;apply ye;refine yh ?_;iterate 2 apply yg
 refine xZ (yF intE 3 1 10 5 rfl rfl) ?_;apply yi;refine yy ?_;apply xS;refine zX (fun n => [(1, iv k), (2, itsA l), (3, .ptr 3 0 0 0), (10, .own 5), (27, smsA (segV m k l)), (28, iv (segV m k l).length), (29, iv (n : Int))]) (fun n => [(3, .box (mnE m) 23), (5, .row intE (muF m k l n) 3 1)]) (fun n => n <= (segV m k l).length /\ muI m k l n = true) ((segV m k l).length) (fun n hk => ?_) (hJ := by exact ⟨by omega, zt6⟩);obtain ⟨x2, Z⟩ := hk;refine gd ?_ ?_<;>intro x1
 ·obtain ⟨s, hs⟩ : ∃ s, (segV m k l)[n]? = some s := ⟨_, lgg (by omega)⟩;have x0 : (segV m k l)[(n : Int).toNat]? = some s := by simpa using hs
  have J := zej m k l s (j6 hs);have w2 := zif Z;have v9 := znc (unT m k) k (segV m k l) l (muF m k l n) (muF m k l n).length;refine gq ?_;refine kF (znq (stF := ⟨[(34, mnA m), (35, iv k), (36, itsA l), (37, yc (muF m k l n))], []⟩) 38 ((xP (k := 5) rfl).trans yd) (zgh m k l (muF m k l n) h0 h1 (by omega) (by omega) (hE := U) (hX := by simp; omega) (hok := zt7 Z) (hN := zej m k l) (hMS := by omega))) rfl rfl ?_;refine gd ?_ ?_<;>intro I
  ·exact absurd rfl I
  apply yl;apply yg;refine xZ (xP (k := 38) rfl) ?_;refine gc (zjk s (akF m k l n) J (by unfold akF; omega)) ?_;refine gd ?_ ?_<;>intro T
  ·have H : chF s (akF m k l n) = none := by first | exact T | simpa using T
   have G := zxb U Z hs H;obtain ⟨hE, V⟩ := G;apply ye;refine yL ?_;refine xU ?_;refine xQ (yd (ts := [(6, yc []), (7, iv 14)]) (hs := [])) ?_;refine yj ?_ ?_;all_goals (first | exact zE hE | exact zE V | exact j5 (fun z => yc z) V | exact j5 (fun z => AV.int .i64 z) hE.symm | (with_reducible rfl))
  have H := zr2 T;have E := zw9 Z hs H;obtain ⟨hI, v8⟩ := E;refine gq ?_;refine yz intE [_] ?_;refine gq ?_;refine yw (n + 1) (hJ := by exact ⟨by omega, hI⟩) (hI := yk)
 ·have hn : n = (segV m k l).length := by omega
  have xT := zpw U Z hn;obtain ⟨hE, V⟩ := xT;apply k8;apply ye;refine yy ?_;refine xU ?_;refine xQ (xP (k := 5) rfl) ?_;refine yj ?_ ?_;all_goals (first | exact zE hE | exact zE V | exact j5 (fun z => yc z) V | exact j5 (fun z => AV.int .i64 z) hE.symm | (with_reducible rfl))
def zg0 (l : List Int) (x : Int) (hl : l.length <= 4000000000) : Fn prog 290 [yc l, iv x] (.bool (decide (x ∈ l))) := by
 refine xV func290 ntmps290 (fun g w d => ?_);apply ye;refine yh ?_;apply yg;apply ye;refine yh ?_;apply xS;refine zX (fun k => [(0, yc l), (1, iv x), (5, iv (k : Int))]) (fun k => []) (fun k => k <= l.length /\ x ∉ l.take k) l.length (fun k Q => ?_) (hJ := by exact ⟨by omega, by simp⟩) (h0 := yd);obtain ⟨N, Z⟩ := Q;refine gd ?_ ?_<;>intro J
 ·obtain ⟨y, U⟩ : ∃ y, l[k]? = some y := ⟨_, lgg (by omega)⟩;have I : l[(k : Int).toNat]? = some y := by simpa using U
  refine gd ?_ ?_<;>intro V
  ·have hE : decide (x ∈ l) = true := by rw [← V]; exact jI (j6 U)
   refine gq ?_;all_goals rw [hE]
  refine gq ?_;refine yw (k + 1) (hJ := by exact ⟨by omega, zvw U Z V⟩)
 ·have T : k = l.length := by omega
  have hE : decide (x ∈ l) = false := by rw [T, jH] at Z; exact j9 Z
  refine gq ?_;all_goals rw [hE]
def zen (s : Sgm) (hN : 0 <= s.Count.N) : Fn prog 289 [smA s] (yc (wnL s)) := by
 refine xV func289 ntmps289 (fun g w d => ?_);refine gd ?_ ?_<;>intro Z
 ·apply ye;refine yz intE [_, _] ?_;refine yh ?_;refine xU ?_;refine xQ (xP (k := 11) rfl) ?_;refine gq ?_;all_goals (first | (unfold wnL; simp_all; done) | (unfold wnL; simp_all; rfl))
 refine gd ?_ ?_<;>intro V
 ·apply ye;refine yz intE [_] ?_;refine yh ?_;refine xU ?_;refine xQ (xP (k := 15) rfl) ?_;refine gq ?_;all_goals (first | (unfold wnL; simp_all; done) | (unfold wnL; simp_all; rfl))
 refine gd ?_ ?_<;>intro U
 ·apply ye;refine yz intE [_, _] ?_;refine yh ?_;refine xU ?_;refine xQ (xP (k := 19) rfl) ?_;refine gq ?_;all_goals (first | (unfold wnL; simp_all; done) | (unfold wnL; simp_all; rfl))
 refine gd ?_ ?_<;>intro T
 ·apply ye;refine yz intE [_, _] ?_;refine yh ?_;refine xU ?_;refine xQ (xP (k := 25) rfl) ?_;refine gq ?_;all_goals (first | (unfold wnL; simp_all; done) | (unfold wnL; simp_all; rfl))
 refine gq ?_;refine yz intE [_, _] ?_;refine yh ?_;refine xU ?_;refine xQ (xP (k := 26) rfl) ?_;refine gq ?_;all_goals (first | (unfold wnL; simp_all; done) | (unfold wnL; simp_all; rfl))
set_option maxHeartbeats 2000000 in
def zeo (m : Mn) (k : Int) (l : List Ite) (h0 : -9223372036854775808 <= k) (h1 : k <= 9223372036854775807) (hl : l.length <= 400000) : Fn prog 244 [mnA m, iv k, itsA l] (.tup [yc (cuV m k l), iv (cuE m k l)]) := by
 have x2 := zaJ m k l;refine xV func244 ntmps244 (fun g w d => ?_);refine gc (zay m k l h0 h1 (by omega)) ?_;refine gd ?_ ?_<;>intro I
 ·have H := zxa I;obtain ⟨hE, V⟩ := H;apply ye;refine yy ?_;refine xU ?_;refine xQ (yd (ts := [(6, yc []), (7, iv (segE m k l))]) (hs := [])) ?_;refine yj ?_ ?_;all_goals (first | exact zE hE | exact zE V | exact j5 (fun z => yc z) V | exact j5 (fun z => AV.int .i64 z) hE.symm | (with_reducible rfl))
 have U : segE m k l = 0 := by omega
 have x1 : [] = muF m k l 0 := zA3.symm;apply yl;apply ye;refine yh ?_;iterate 2 apply yg
 refine xZ (yF intE 3 1 10 5 rfl rfl) ?_;apply yi;refine yh ?_;apply xS;refine zX (fun n => [(1, iv k), (2, itsA l), (3, .ptr 3 0 0 0), (8, smsA (segV m k l)), (10, .own 5), (11, iv (n : Int))]) (fun n => [(3, .box (mnE m) 23), (5, .row intE (muF m k l n) 3 1)]) (fun n => n <= (segV m k l).length /\ muI m k l n = true) ((segV m k l).length) (fun n hk => ?_) (hJ := by exact ⟨by omega, zt6⟩);obtain ⟨x0, Z⟩ := hk;refine gd ?_ ?_<;>intro w2
 ·obtain ⟨s, hs⟩ : ∃ s, (segV m k l)[n]? = some s := ⟨_, lgg (by omega)⟩;have v9 : (segV m k l)[(n : Int).toNat]? = some s := by simpa using hs
  have G := zej m k l s (j6 hs);have v8 := zif Z;have v5 := znc (unT m k) k (segV m k l) l (muF m k l n) (muF m k l n).length;have v4 := zvc s;have v3 : -1 = wdF (wnL s) (akF m k l n) 0 := (zAx _ _).symm;have v1 : ((wnL s).length : Int) - 1 = ((wnL s).length : Int) - 1 - ((0 : Nat) : Int) := by omega
  refine gq ?_;refine kF (znq (stF := ⟨[(34, mnA m), (35, iv k), (36, itsA l), (37, yc (muF m k l n))], []⟩) 38 ((xP (k := 5) rfl).trans yd) (zdu m k l (muF m k l n) h0 h1 (by omega) (by omega) (hE := U) (hX := by simp; omega) (hok := zt7 Z) (hN := zej m k l) (hMS := by omega))) rfl rfl ?_;iterate 2 refine ya ?_
  refine yy ?_;apply yg;refine xZ (xP (k := 38) rfl) ?_;refine gq ?_;refine yM (zen s G) ?_;refine ya ?_;apply yE;refine yh ?_;apply yg;apply ye;refine ya ?_;refine yy ?_;apply xS;refine zq (fun i => [(1, iv k), (2, itsA l), (3, .ptr 3 0 0 0), (8, smsA (segV m k l)), (10, .own 5), (11, iv (n : Int)), (12, yc (akF m k l n)), (14, yc (wnL s)), (15, iv (wdF (wnL s) (akF m k l n) i)), (16, iv (((wnL s).length : Int) - 1 - (i : Int)))]) (fun i => [(3, .box (mnE m) 23), (5, .row intE (muF m k l n) 3 1)]) ((wnL s).length) (fun i hk => ?_);refine gd ?_ ?_<;>intro v0
  ·obtain ⟨x, hx⟩ : ∃ x, (wnL s)[(wnL s).length - 1 - i]? = some x := ⟨_, lgg (by omega)⟩;have u3 : (wnL s)[(((wnL s).length : Int) - 1 - (i : Int)).toNat]? = some x := by rw [show (((wnL s).length : Int) - 1 - (i : Int)).toNat = (wnL s).length - 1 - i by omega]; exact hx
   have T := zAy (A := akF m k l n) (show i < (wnL s).length by omega) hx;have u2 : ((wnL s).length : Int) - 1 - (i : Int) - 1 = ((wnL s).length : Int) - 1 - ((i + 1 : Nat) : Int) := by omega
   refine gc (zg0 (akF m k l n) x (by unfold akF; omega)) ?_;refine gd ?_ ?_<;>intro Q
   ·have N : x = wdF (wnL s) (akF m k l n) (i + 1) := by rw [T, j4 Q]
    refine gq ?_;refine yw (i + 1) (hI := yk)
   ·have N : wdF (wnL s) (akF m k l n) i = wdF (wnL s) (akF m k l n) (i + 1) := by rw [T, j3 Q]
    refine gq ?_;refine yw (i + 1) (hI := yk)
  ·have hi : i = (wnL s).length := by omega
   have hW := zvb (A := akF m k l n) hi;refine gd ?_ ?_<;>intro J
   ·have E := zvx hW J;have xT := zxb U Z hs E;obtain ⟨hE, V⟩ := xT;apply ye;refine yL ?_;refine xU ?_;refine xQ (yd (ts := [(6, yc []), (7, iv 14)]) (hs := [])) ?_;refine yj ?_ ?_;all_goals (first | exact zE hE | exact zE V | exact j5 (fun z => yc z) V | exact j5 (fun z => AV.int .i64 z) hE.symm | (with_reducible rfl))
   have E := zvy hW J;have x4 := zw9 Z hs E;obtain ⟨hI, T⟩ := x4;refine gq ?_;refine yz intE [_] ?_;refine gq ?_;refine yw (n + 1) (hJ := by exact ⟨by omega, hI⟩) (hI := yk)
 ·have hn : n = (segV m k l).length := by omega
  have x3 := zpw U Z hn;obtain ⟨hE, V⟩ := x3;apply k8;apply ye;refine yy ?_;refine xU ?_;refine xQ (xP (k := 5) rfl) ?_;refine yj ?_ ?_;all_goals (first | exact zE hE | exact zE V | exact j5 (fun z => yc z) V | exact j5 (fun z => AV.int .i64 z) hE.symm | (with_reducible rfl))
end
section
attribute [local irreducible] Pur yu yq Ex X Fn Imp LeV LeB FnO It yD FnW FnOW
attribute [local irreducible] cuV cuE apV apE leE leC leI lvN lvF ckM perfL ckIE ckIX
set_option maxHeartbeats 2000000 in
set_option maxRecDepth 9999 in
def zep (m : Mn) (l : List Ite) (hl : l.length <= 100000) : Fn prog 185 [mnA m, itsA l] (.tup [yc (leC m l), itsA (leI m l), iv (leE m l)]) := by
 have v9 := zkt m;refine xV func185 ntmps185 (fun g w d => ?_);refine gc (zb5 m) ?_;refine gd ?_ ?_<;>intro J
 ·have I := zw2 (l := l) J;obtain ⟨hE, Z, V⟩ := I;apply ye;refine ya ?_;refine yy ?_;refine xU ?_;refine xQ (yd (ts := [(4, yc []), (5, itsA []), (6, iv (ckM m))]) (hs := [])) ?_;refine k7 (.many (by decide) (.cons (.tmp rfl (xR ?_)) (.cons (.tmp rfl (xR ?_)) (.cons (.tmp rfl (xR ?_)) .nil))));all_goals (first | exact zE hE | exact zE Z | exact zE V | exact j5 (fun z => yc z) Z | exact j5 (fun z => itsA z) V | exact j5 (fun z => AV.int .i64 z) hE.symm | (with_reducible rfl))
 have hm : ckM m = 0 := by omega
 rw [show (if ckM m = 0 then perfL m else []) = perfL m from j4 hm];refine gc (zci l (by omega)) ?_;refine gd ?_ ?_<;>intro G
 ·have E := zw3 hm G;obtain ⟨hE, Z, V⟩ := E;apply ye;refine ya ?_;refine yy ?_;refine xU ?_;refine xQ (yd (ts := [(4, yc []), (5, itsA []), (6, iv (ckIE l))]) (hs := [])) ?_;refine k7 (.many (by decide) (.cons (.tmp rfl (xR ?_)) (.cons (.tmp rfl (xR ?_)) (.cons (.tmp rfl (xR ?_)) .nil))));all_goals (first | exact zE hE | exact zE Z | exact zE V | exact j5 (fun z => yc z) Z | exact j5 (fun z => itsA z) V | exact j5 (fun z => AV.int .i64 z) hE.symm | (with_reducible rfl))
 have hi : ckIE l = 0 := by omega
 apply yl;apply ye;refine yh ?_;apply yg;refine xZ (yF intE 3 1 9 5 rfl rfl) ?_;apply yi;refine yz itE [] ?_;refine ya ?_;refine xY ?_;refine yh ?_;iterate 2 apply yg
 have v8 : [] = (lvN m (perfL m) l 0).1 := by unfold lvN; rfl
 have v5 : ([] : List Ite) ++ l = (lvN m (perfL m) l 0).2 := by unfold lvN; rfl
 refine xZ (st' := ⟨[(2, .ptr 2 0 0 0), (7, yc (perfL m)), (9, .own 5), (10, itsA ([] ++ l))], [(2, .box (mnE m) 23), (5, .row intE [] 3 1)]⟩) ((xP (k := 30) rfl).trans yd) ?_;apply yi;refine yh ?_;apply xS;refine zX (fun n => [(2, .ptr 2 0 0 0), (7, yc (perfL m)), (9, .own 5), (10, itsA (lvN m (perfL m) l n).2), (11, iv (n : Int))]) (fun n => [(2, .box (mnE m) 23), (5, .row intE (lvN m (perfL m) l n).1 3 1)]) (fun n => LvJ m (perfL m) l n) ((perfL m).length) (fun n U => ?_) (hJ := by exact zt2 _ _ _);have hJ := U;have v4 := hJ.le;clear U;refine gd ?_ ?_<;>intro v3
 ·obtain ⟨k, U⟩ : ∃ k, (perfL m)[n]? = some k := ⟨_, lgg (by omega)⟩;have xT : (perfL m)[(n : Int).toNat]? = some k := by simpa using U
  have v1 := zpm U;have w2 := hJ.len;have Q := hJ.cho;have v0 : n <= 4 := by omega
  have N : (lvN m (perfL m) l n).1.length <= 5 * (2 * l.length + 2) := jQ Q (jS _ (by omega));have u3 := zhM (m := m) (k := k) (l := (lvN m (perfL m) l n).2);have x4 := zks (m := m) (l := l) U;obtain ⟨u2, u1⟩ := x4;refine gq ?_;refine yW [12,13,39,40,41,42,43,44,45,46,47,48] [0,0,0,6,14,0,63,127,255,255,511,2047] mo ?_;iterate 6 refine yb ?_
  refine yH (zeo m k (lvN m (perfL m) l n).2 (by omega) (by omega) (by omega)) ?_;iterate 5 refine yb ?_
  refine yA ?_;refine gd ?_ ?_<;>intro x3
  ·have x2 := zw4 hm hi hJ U x3;obtain ⟨hE, Z, V⟩ := x2;apply ye;refine ya ?_;refine yy ?_;refine xU ?_;refine xQ (yd (ts := [(4, yc []), (5, itsA []), (6, iv (cuE m k (lvN m (perfL m) l n).2))]) (hs := [])) ?_;refine k7 (.many (by decide) (.cons (.tmp rfl (xR ?_)) (.cons (.tmp rfl (xR ?_)) (.cons (.tmp rfl (xR ?_)) .nil))));all_goals (first | exact zE hE | exact zE Z | exact zE V | exact j5 (fun z => yc z) Z | exact j5 (fun z => itsA z) V | exact j5 (fun z => AV.int .i64 z) hE.symm | (with_reducible rfl))
  have h0 : cuE m k (lvN m (perfL m) l n).2 = 0 := by omega
  have x1 := zlx h0;apply yl;apply yg;refine X.drawQ [⟨0, 53, mnA m, []⟩, ⟨1, 54, yc (perfL m), []⟩, ⟨2, 55, iv (n : Int), []⟩, ⟨3, 56, .ept intE k 0, [2, 1]⟩, ⟨4, 57, iv k, [2, 1, 3]⟩, ⟨5, 58, itsA (lvN m (perfL m) l n).2, []⟩, ⟨6, 59, yc (cuV m k (lvN m (perfL m) l n).2), []⟩, ⟨8, 52, .tup [itsA (apV m k (lvN m (perfL m) l n).2 (cuV m k (lvN m (perfL m) l n).2)), iv (apE m k (lvN m (perfL m) l n).2 (cuV m k (lvN m (perfL m) l n).2))], [2, 1, 3, 6, 5, 4, 0, 7]⟩, ⟨9, 61, itsA (apV m k (lvN m (perfL m) l n).2 (cuV m k (lvN m (perfL m) l n).2)), [2, 1, 3, 6, 5, 4, 0, 7, 8]⟩, ⟨10, 62, iv (apE m k (lvN m (perfL m) l n).2 (cuV m k (lvN m (perfL m) l n).2)), [2, 1, 3, 6, 5, 4, 0, 7, 8]⟩] [(7, [2, 1, 3, 6, 5, 4, 0]), (11, [8, 6, 5, 4, 3, 2, 1, 0, 7, 9]), (12, [9, 8, 7, 6, 5, 4, 3, 2, 1, 0, 11, 10])] (fun j => match j with | 0 => ⟨[(2, .ptr 2 0 0 0), (7, yc (perfL m)), (9, .own 5), (10, itsA (lvN m (perfL m) l n).2), (11, iv (n : Int)), (12, yc (cuV m k (lvN m (perfL m) l n).2))], [(2, .box (mnE m) 23), (5, .row intE (lvN m (perfL m) l n).1 3 1)]⟩ | 1 => ⟨[(2, .ptr 2 0 0 0), (7, yc (perfL m)), (9, .own 5), (10, itsA (lvN m (perfL m) l n).2), (11, iv (n : Int)), (12, yc (cuV m k (lvN m (perfL m) l n).2)), (60, .tup [itsA (apV m k (lvN m (perfL m) l n).2 (cuV m k (lvN m (perfL m) l n).2)), iv (apE m k (lvN m (perfL m) l n).2 (cuV m k (lvN m (perfL m) l n).2))])], [(2, .box (mnE m) 23), (5, .row intE (lvN m (perfL m) l n).1 3 1)]⟩ | 2 => ⟨[(2, .ptr 2 0 0 0), (7, yc (perfL m)), (9, .own 5), (10, itsA (apV m k (lvN m (perfL m) l n).2 (cuV m k (lvN m (perfL m) l n).2))), (11, iv (n : Int)), (12, yc (cuV m k (lvN m (perfL m) l n).2)), (60, .tup [itsA (apV m k (lvN m (perfL m) l n).2 (cuV m k (lvN m (perfL m) l n).2)), iv (apE m k (lvN m (perfL m) l n).2 (cuV m k (lvN m (perfL m) l n).2))])], [(2, .box (mnE m) 23), (5, .row intE (lvN m (perfL m) l n).1 3 1)]⟩ | _ => ⟨[(2, .ptr 2 0 0 0), (7, yc (perfL m)), (9, .own 5), (10, itsA (apV m k (lvN m (perfL m) l n).2 (cuV m k (lvN m (perfL m) l n).2))), (11, iv (n : Int)), (12, yc (cuV m k (lvN m (perfL m) l n).2)), (60, .tup [itsA (apV m k (lvN m (perfL m) l n).2 (cuV m k (lvN m (perfL m) l n).2)), iv (apE m k (lvN m (perfL m) l n).2 (cuV m k (lvN m (perfL m) l n).2))]), (13, iv (apE m k (lvN m (perfL m) l n).2 (cuV m k (lvN m (perfL m) l n).2)))], [(2, .box (mnE m) 23), (5, .row intE (lvN m (perfL m) l n).1 3 1)]⟩) mo (by kernel_rfl) (zl (yd)) (fun j hj => ?_) (fun j c hc β hβ => ?_) ?_
  ·rcases j with _ | _ | _ | _ | j
   ·iterate 3 refine ⟨.inr ⟨_, rfl, rfl, rfl, rfl, Pur.stepA yG⟩, ?_⟩
    refine ⟨.inr ⟨_, rfl, rfl, rfl, rfl, Pur.stepA (zaf (enc := intE) (l := (perfL m)) (u := k) rfl rfl SlK.h TyK.h (fun _ => rfl) (by omega) xT)⟩, ?_⟩
    exact yC
   ·exact yC
   ·exact yC
   ·exact yC
   ·exact absurd (show j + 4 <= 3 from hj) (by omega)
  ·rcases j with _ | _ | _ | j
   ·obtain rfl : (7, [2, 1, 3, 6, 5, 4, 0]) = c := by injection hc
    refine yQ rfl (yV (st0 := ⟨[(53, mnA m), (54, yc (perfL m)), (55, iv (n : Int)), (56, .ept intE k 0), (57, iv k), (58, itsA (lvN m (perfL m) l n).2), (59, yc (cuV m k (lvN m (perfL m) l n).2)), (52, .ifb (β 8) (.tup [itsA (apV m k (lvN m (perfL m) l n).2 (cuV m k (lvN m (perfL m) l n).2)), iv (apE m k (lvN m (perfL m) l n).2 (cuV m k (lvN m (perfL m) l n).2))])), (61, .ifb (β 9) (itsA (apV m k (lvN m (perfL m) l n).2 (cuV m k (lvN m (perfL m) l n).2)))), (62, .ifb (β 10) (iv (apE m k (lvN m (perfL m) l n).2 (cuV m k (lvN m (perfL m) l n).2)))), (2, .ptr 2 0 0 0), (7, yc (perfL m)), (9, .own 5), (10, itsA (lvN m (perfL m) l n).2), (11, iv (n : Int)), (12, yc (cuV m k (lvN m (perfL m) l n).2))], [(2, .box (mnE m) 23), (5, .row intE (lvN m (perfL m) l n).1 3 1)]⟩) (yK) ?_)
    refine yq.imp (yP (zao rfl rfl rfl (LeL.refl _) (ze9 m k (lvN m (perfL m) l n).2 (cuV m k (lvN m (perfL m) l n).2) (by omega) (by omega) (by omega) (by omega))) rfl rfl) (yK)
   ·obtain rfl : (11, [8, 6, 5, 4, 3, 2, 1, 0, 7, 9]) = c := by injection hc
    refine yQ rfl (yV (st0 := ⟨[(53, mnA m), (54, yc (perfL m)), (55, iv (n : Int)), (56, .ept intE k 0), (57, iv k), (58, itsA (lvN m (perfL m) l n).2), (59, yc (cuV m k (lvN m (perfL m) l n).2)), (52, .tup [itsA (apV m k (lvN m (perfL m) l n).2 (cuV m k (lvN m (perfL m) l n).2)), iv (apE m k (lvN m (perfL m) l n).2 (cuV m k (lvN m (perfL m) l n).2))]), (61, itsA (apV m k (lvN m (perfL m) l n).2 (cuV m k (lvN m (perfL m) l n).2))), (62, .ifb (β 10) (iv (apE m k (lvN m (perfL m) l n).2 (cuV m k (lvN m (perfL m) l n).2)))), (2, .ptr 2 0 0 0), (7, yc (perfL m)), (9, .own 5), (10, itsA (lvN m (perfL m) l n).2), (11, iv (n : Int)), (12, yc (cuV m k (lvN m (perfL m) l n).2)), (60, .tup [itsA (apV m k (lvN m (perfL m) l n).2 (cuV m k (lvN m (perfL m) l n).2)), iv (apE m k (lvN m (perfL m) l n).2 (cuV m k (lvN m (perfL m) l n).2))])], [(2, .box (mnE m) 23), (5, .row intE (lvN m (perfL m) l n).1 3 1)]⟩) (yK) ?_)
    refine yq.imp (yP (Pur.stepA yG) rfl rfl) (yK)
   ·obtain rfl : (12, [9, 8, 7, 6, 5, 4, 3, 2, 1, 0, 11, 10]) = c := by injection hc
    refine yQ rfl (yV (st0 := ⟨[(53, mnA m), (54, yc (perfL m)), (55, iv (n : Int)), (56, .ept intE k 0), (57, iv k), (58, itsA (lvN m (perfL m) l n).2), (59, yc (cuV m k (lvN m (perfL m) l n).2)), (52, .tup [itsA (apV m k (lvN m (perfL m) l n).2 (cuV m k (lvN m (perfL m) l n).2)), iv (apE m k (lvN m (perfL m) l n).2 (cuV m k (lvN m (perfL m) l n).2))]), (61, itsA (apV m k (lvN m (perfL m) l n).2 (cuV m k (lvN m (perfL m) l n).2))), (62, iv (apE m k (lvN m (perfL m) l n).2 (cuV m k (lvN m (perfL m) l n).2))), (2, .ptr 2 0 0 0), (7, yc (perfL m)), (9, .own 5), (10, itsA (apV m k (lvN m (perfL m) l n).2 (cuV m k (lvN m (perfL m) l n).2))), (11, iv (n : Int)), (12, yc (cuV m k (lvN m (perfL m) l n).2)), (60, .tup [itsA (apV m k (lvN m (perfL m) l n).2 (cuV m k (lvN m (perfL m) l n).2)), iv (apE m k (lvN m (perfL m) l n).2 (cuV m k (lvN m (perfL m) l n).2))])], [(2, .box (mnE m) 23), (5, .row intE (lvN m (perfL m) l n).1 3 1)]⟩) (yK) ?_)
    refine yq.imp (yP (Pur.stepA yG) rfl rfl) (yK)
   ·exact absurd hc (by simp)
  refine gd ?_ ?_<;>intro N
  ·exact absurd x1 N
  apply yl;apply yi;iterate 2 refine ya ?_
  refine xY (hs := zB (l := (lvN m (perfL m) l n).1) (l2 := (cuV m k (lvN m (perfL m) l n).2)) rfl rfl rfl SlK.h TiK.h (by decide) (by decide) (fun _ => rfl) (fun _ => rfl) (by omega) rfl) ?_;refine yh ?_;refine xZ (st' := ⟨[(2, .ptr 2 0 0 0), (7, yc (perfL m)), (9, .own 5), (10, itsA (apV m k (lvN m (perfL m) l n).2 (cuV m k (lvN m (perfL m) l n).2))), (11, iv (n : Int))], [(2, .box (mnE m) 23), (5, .row intE ((lvN m (perfL m) l n).1 ++ (cuV m k (lvN m (perfL m) l n).2)) 3 1)]⟩) yd ?_;refine gq ?_;refine yw (n + 1) (hJ := by exact hJ.s U h0) (hI := yk)
 ·have hn : n = (perfL m).length := by omega
  have x0 := zw5 hm hi hJ hn;obtain ⟨hE, Z, V⟩ := x0;apply k8;apply ye;iterate 2 refine ya ?_
  refine yy ?_;refine xU ?_;refine xQ (xP (k := 5) rfl) ?_;refine k7 (.many (by decide) (.cons (.tmp rfl (xR ?_)) (.cons (.tmp rfl (xR ?_)) (.cons (.tmp rfl (xR ?_)) .nil))));all_goals (first | exact zE hE | exact zE Z | exact zE V | exact j5 (fun z => yc z) Z | exact j5 (fun z => itsA z) V | exact j5 (fun z => AV.int .i64 z) hE.symm | (with_reducible rfl))
end
end Go.Rse
namespace Go.Rse
open Go Go.RowKit Go.Proofs.Tryz
def zui (C : Ctx) (pv : Value) (vs : List Value) (cs : List AV) (hs' : List (Nat × Blk)) (e : Exit) (st : St) : Prop :=
 e = pnc pv /\ ∃ ts ex, Imp C st ⟨ts, (kN, .hold vs cs) :: (hs' ++ ex)⟩
def zui.mk {C : Ctx} {pv : Value} {vs : List Value} {cs : List AV} {Z : List (Nat × Blk)} {st : St} (hi : Imp C st ⟨[], (kN, .hold vs cs) :: (Z ++ [])⟩ := by exact yd) : zui C pv vs cs Z (pnc pv) st := ⟨rfl, [], [], hi⟩
def FnP.intro {P : Program} {f : FuncId} {fn : Func} {c : Code} {n : Nat} {az : List AV} {ts : List (Nat × AV)} {pv : Value} {hs V : List (Nat × Blk)} {kp : List Nat} {cs : List AV} (hc : zag P f = true) (hf : P.funcs[f]? = some fn) (hb : fn.body = some c) (hn : fn.ntmps = n)
 (x1 : zbr 0 az = ts) (v5 : az.length <= n) (v4 : (hs.all fun p => !(p.1.beq kN)) = true) (H : (V.all fun p => !(p.1.beq kN)) = true) (x0 : kp.mapM (hdr hs) = some cs) (G : kp.mapM (hdr V) = some cs)
 (h : ∀ g w d vs, X P (C0 n d g w) c ⟨ts, (kN, .hold vs cs) :: hs⟩ (zui (C0 n d g w) pv vs cs V)) : FnP P f az hs kp pv V := by
 refine ⟨hc, fun d ρ I O w args U T => (callsIn_wide (n := 0)).1 (callsIn_of_wp_marks hf hb trivial ?_)⟩;subst x1;have w2 : args.length = az.length := T.1;let C := C0 n d ⟨ρ, I, O⟩ w
 have E : Rel C ⟨zbr 0 az, (kN, .hold (kp.map ρ) cs) :: hs⟩ ⟨ρ, I, O⟩ { tmps := args.toArray ++ Array.replicate (fn.ntmps - args.toArray.size) undef, defers := [] } w := by
  refine ⟨by simp [hn, C]; omega, Dfs.nil _ _ _, fun t x hx => ?_, ⟨U.im, U.ob, fun k B N => ?_⟩, ⟨kR _, rfl, rfl, rfl, jC _, jC _, fun _ _ _ _ => ⟨rfl, rfl⟩, fun b y n _ hy => ⟨n, hy⟩⟩⟩
  ·obtain ⟨_, J⟩ := zcU (I := I) (ρ := ρ) az 0 t x hx;simp only [vM] at J;have ht : t < args.length := by rw [w2]; exact (j1.1 J).1
   have e : (args.toArray ++ Array.replicate (fn.ntmps - args.toArray.size) undef).getD t undef = args[t] := by
    simp [jF, uB, ht]
   rw [e];exact T.2 t x _ J (lgg ht)
  ·simp only [yn] at N;cases v9 : kN.beq k <;> simp [v9] at N
   ·exact (U.blk k B N).ctx
   ·subst N;exact zgK (g := ⟨ρ, I, O⟩) U x0
 refine wpIn_mono (h _ w d _ _ _ w E) ?_
 rintro e a w' ⟨st, g1, v8, rfl, ts', ex', xT⟩
 obtain ⟨g2, x4⟩ := xT g1 a w' v8;show LeavesInM Fence.wide 0 P fn a.tmps _ a.defers (.panicking [{ v := pv, recovered := false }]) w';obtain ⟨D, hD, v3, v1⟩ := x4.defers;have Q := hD.plain (C := C) rfl;have Q : a.defers = D.map mkD ++ [] := by rw [Q]; simp [C]
 rw [Q];refine ze8 (C := C) (st := ⟨ts', (kN, .hold (kp.map ρ) cs) :: (V ++ ex')⟩) (tmps := a.tmps) (by simp) (tl := []) (fun g3 w3 Z => ?_) D (g := g2) (w := w') (by rw [← Q]; exact x4)
 have x3 : Sat (C0 0 d ⟨ρ, I, O⟩ w) V g3 w3 := ⟨Z.sat.im, Z.sat.ob, fun k B N => by
  refine (Z.sat.blk k B ?_).ctx
  have : kN.beq k = false := by
   cases hb : kN.beq k
   ·rfl
   ·have : kN = k := by simpa using hb
    subst this; rw [zeG H] at N; simp at N
  simp [yn, this, zcw, N]⟩
 have hh := Z.sat.blk kN (.hold (kp.map ρ) cs) (by simp [yn])
 have x2 : ∃ v ρ' I' O', (Ending.panicked [{ v := pv, recovered := false }] = Ending.panicked [{ v := pv, recovered := false }]) /\ Sat (C0 0 d ⟨ρ, I, O⟩ w) V ⟨ρ', I', O'⟩ w3 /\ RV I' ρ' (.tup []) v /\ Ext (C0 0 d ⟨ρ, I, O⟩ w) ⟨ρ', I', O'⟩ w3 /\ ∀ n ∈ kp, ρ' n = ρ n :=
  ⟨.tuple #[], g3.ρ, g3.I, g3.O, rfl, x3, .tup [] [] rfl (fun j c v hc => by simp at hc), ⟨Z.ext.I, Z.ext.os, Z.ext.tape, Z.ext.output, Z.ext.drawn, Z.ext.size, Z.ext.keep, Z.ext.own⟩, zeF (ρ := ρ) x3 G hh⟩
 exact x2
end Go.Rse
