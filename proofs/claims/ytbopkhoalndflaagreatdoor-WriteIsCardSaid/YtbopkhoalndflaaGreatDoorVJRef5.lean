/-
  Walks.
-/
import Derived.Test.YtbopkhoalndflaaGreatDoorVJSpan1
set_option linter.all false
namespace Go.Rse
open Go Go.Proofs Go.Proofs.Tryz
section
attribute [local irreducible] Pur yu yq Ex X Fn Imp LeV LeB FnO It yD
def Mn.ok_L (m : Mn) : m.Ok ↔ ∀ v ∈ mnL m, two3 v := by simp [Mn.Ok, mnL]
theorem zpR {m : Mn} {w : Int} (h : 4 < w) : m.p w = 2 := by
 unfold Mn.p; rw [j3 (by omega), j3 (by omega), j3 (by omega), j3 (by omega)]
def znj {m : Mn} {v : Int} (h : ckMV m v = 0) : 1 <= v /\ v <= 8 := by
 unfold ckMV at h;split at h
 ·split at h
  ·assumption
  ·omega
 ·omega
def zrW {m : Mn} {v w : Int} (N : 1 <= w) (hv : w < v) (U : m.p w = 3) (hJ : ∀ u, w < u -> u < v -> m.p u ≠ 3) : m.ab v = w := by
 have J : w <= 4 := by
  rcases Int.lt_or_le 4 w with h | h
  ·rw [zpR h] at U; omega
  ·exact h
 have V : ∀ u, w < u -> decide (decide (m.p u = 3) = true /\ decide (u < v) = true) = false := fun u h => by
  by_cases T : m.p u = 3
  ·have : ¬ u < v := fun Q => hJ u h Q T
   simp [this]
  ·simp [T]
 have Z : decide (decide (m.p w = 3) = true /\ decide (w < v) = true) = true := by simp [U, hv]
 unfold Mn.ab perfL;rw [List.find?_filter];have : w = 1 \/ w = 2 \/ w = 3 \/ w = 4 := by omega
 rcases this with rfl | rfl | rfl | rfl
 ·simp only [vR, V 4 (by omega), V 3 (by omega), V 2 (by omega), Z]; rfl
 ·simp only [vR, V 4 (by omega), V 3 (by omega), Z]; rfl
 ·simp only [vR, V 4 (by omega), Z]; rfl
 ·simp only [vR, Z]; rfl
def zrX {m : Mn} {v : Int} (hJ : ∀ u, 1 <= u -> u < v -> m.p u ≠ 3) : m.ab v = 0 := znF fun i _ k V h => by
 have hm : k ∈ perfL m := j6 V;have Z := wR.1 hm;have U : m.p k = 3 := by simpa using Z.2
 have T : 1 <= k := by have := Z.1; simp at this; omega
 exact hJ k T h U
def zj (m : Mn) : Fn prog 125 [mnA m] (iv (ckM m)) := by
 refine xV func125 ntmps125 (fun g w d => ?_);refine gq ?_;refine yz intE [_, _, _, _] ?_;refine yh ?_;iterate 2 apply yg
 refine xZ (xP (k := 13) rfl) ?_;apply yi;refine yh ?_;apply xS;refine zX (fun k => [(3, yc (mnL m)), (4, iv (k : Int))]) (fun k => []) (fun k => k <= 4 /\ ∀ i v, i < k -> (mnL m)[i]? = some v -> two3 v) 4 (fun k U => ?_) (hJ := by exact ⟨by omega, fun i v h => absurd h (wN i)⟩) (h0 := yd);obtain ⟨T, Z⟩ := U;have Q : (mnL m).length = 4 := rfl;refine gd ?_ ?_<;>intro N
 ·obtain ⟨v, hv⟩ : ∃ v, (mnL m)[k]? = some v := ⟨_, lgg (by omega)⟩;have J : (mnL m)[(k : Int).toNat]? = some v := by simpa using hv
  apply yl;apply yg;apply xS;apply ye;iterate 5 refine ya ?_
  refine xX 5 ?_;refine ym ?_;iterate 5 refine xW ?_
  refine gf ?_ ?_<;>intro I
  ·refine gq ?_;all_goals (congr 1; unfold ckM; rw [j3 (fun h => by have := (m.ok_L.1 h) v (j6 hv); unfold two3 at this; omega)])
  refine gq ?_
  refine yw (k + 1) (hJ := by
   refine ⟨by omega, fun i u hi V => ?_⟩;rcases jZ.1 hi with h | h
   ·exact Z i u h V
   ·subst h; rw [hv] at V; injection V with V; subst V; unfold two3; omega)
 ·refine gq ?_;all_goals (congr 1; unfold ckM; rw [j4 (m.ok_L.2 fun v hv => by obtain ⟨i, hi⟩ := jP.1 hv; exact Z i v (by have := (j1.1 hi).1; omega) hi)])
def yX (m : Mn) (v : Int) : Fn prog 149 [mnA m, iv v] (iv (m.p v)) := by
 refine xV func149 ntmps149 (fun g w d => ?_);refine gd ?_ ?_<;>intro Z
 ·refine gq ?_;all_goals (congr 1; unfold Mn.p; simp [*])
 refine gd ?_ ?_<;>intro V
 ·refine gq ?_;all_goals (congr 1; unfold Mn.p; simp [*])
 refine gd ?_ ?_<;>intro U
 ·refine gq ?_;all_goals (congr 1; unfold Mn.p; simp [*])
 refine gd ?_ ?_<;>intro T
 ·refine gq ?_;all_goals (congr 1; unfold Mn.p; simp [*])
 refine gq ?_;all_goals (congr 1; unfold Mn.p; simp [*])
def zcg (m : Mn) (v : Int) : Fn prog 180 [mnA m, iv v] (iv (ckMV m v)) := by
 refine xV func180 ntmps180 (fun g w d => ?_);refine gc (zj m) ?_;refine gd ?_ ?_<;>intro Z
 ·refine gq ?_;all_goals (by_cases hm : m.Ok <;> simp_all [ckM, ckMV] <;> omega)
 apply yl;apply yg;apply ye;iterate 2 refine ya ?_
 refine xX 2 ?_;refine ym ?_;iterate 2 refine xW ?_
 refine gf ?_ ?_<;>intro V
 ·refine gq ?_;all_goals (by_cases hm : m.Ok <;> simp_all [ckM, ckMV] <;> omega)
 refine gq ?_;all_goals (by_cases hm : m.Ok <;> simp_all [ckM, ckMV] <;> omega)
def zfb (m : Mn) (v : Int) : Fn prog 132 [mnA m, iv v] (.tup [iv (if ckMV m v = 0 then m.ab v else 0), iv (ckMV m v)]) := by
 refine xV func132 ntmps132 (fun g w d => ?_);refine gc (zcg m v) ?_;refine gd ?_ ?_<;>intro Z
 ·refine gq ?_;refine yj ?_ ?_;all_goals (first | (simp_all; done))
 apply yl;iterate 2 apply yg
 have N := znj Z;refine gq ?_;refine zdW (ι := Nat) (fun (k : Nat) => [(2, .ptr 2 0 0 0), (7, iv (v - 1 - (k : Int)))]) (fun (k : Nat) => [(2, .box (mnE m) 23)]) (fun (k : Nat) => (k : Int) <= v - 1 /\ ∀ u, v - 1 - (k : Int) < u -> u < v -> m.p u ≠ 3) (fun (k : Nat) => (v - 1 - k).toNat) 0 (fun k J => ?_) (hJ := by exact ⟨by omega, fun u Q U => by omega⟩);obtain ⟨I, V⟩ := J;refine gd ?_ ?_<;>intro H
 ·refine gc (yX m _) ?_;refine gd ?_ ?_<;>intro T
  ·refine gq ?_;refine yj ?_ ?_;all_goals (first | (rw [j4 Z, zrW (by omega) (by omega) T (fun u Q U => V u Q U)]; done) | (simp_all; done))
  refine gq ?_
  refine yw (k + 1) (hJ := by
   refine ⟨by omega, fun u Q U => ?_⟩;by_cases e : u = v - 1 - (k : Int)
   ·rw [e]; exact T
   ·exact V u (by omega) U)
 ·refine gq ?_;refine yj ?_ ?_;all_goals (first | (rw [j4 Z, zrX (fun u Q U => V u (by omega) U)]; done) | (simp_all; done))
end
section
attribute [local irreducible] Pur yu yq Ex X Fn Imp LeV LeB FnO It yD
def zbl (m : Mn) (v : Int) : Nat -> Int
 | 0 => 1
 | n + 1 => zbl m v n * m.p (v + n)
def dbl : Nat -> Int
 | 0 => 1
 | n + 1 => dbl n * 2
def yp (m : Mn) (v : Int) : Tm := ⟨zbl m v (5 - v).toNat, dbl (v - 5).toNat⟩
def zhO {m : Mn} (h : ckM m = 0) (v : Int) (V : 1 <= v) : m.p v = 2 \/ m.p v = 3 := by
 rcases Int.lt_or_le 4 v with Z | Z
 ·exact .inl (zpR Z)
 ·have ho : m.Ok := by
   unfold ckM at h; split at h
   ·assumption
   ·simp at h
  exact m.ok_iff.1 ho v V Z
def pw3 : Nat -> Int
 | 0 => 1
 | n + 1 => pw3 n * 3
def zkB {m : Mn} (h : ckM m = 0) {v : Int} (Z : 1 <= v) : ∀ n, 1 <= zbl m v n /\ zbl m v n <= pw3 n
 | 0 => ⟨vW _, vW _⟩
 | n + 1 => by
  obtain ⟨a, b⟩ := zkB h Z n;simp only [zbl, pw3];rcases zhO h (v + n) (by omega) with e | e <;> rw [e] <;> omega
def zuc : ∀ n, n <= 4 -> pw3 n <= 81
 | 0, _ => by decide
 | 1, _ => by decide
 | 2, _ => by decide
 | 3, _ => by decide
 | 4, _ => by decide
 | n + 5, h => by omega
def zud : ∀ n, n <= 3 -> 1 <= dbl n /\ dbl n <= 8
 | 0, _ => by decide
 | 1, _ => by decide
 | 2, _ => by decide
 | 3, _ => by decide
 | n + 4, h => by omega
def zpS {m : Mn} {v : Int} (h : ckMV m v = 0) : ckM m = 0 /\ 1 <= v /\ v <= 8 := by
 have Z := znj h;refine ⟨?_, Z⟩;unfold ckMV at h; unfold ckM;split at h
 ·rw [j4 (by assumption)]
 ·omega
def zdt (m : Mn) (j : Nat) : List Int := (([4, 3, 2, 1] : List Int).take j).filter fun v => decide (m.p v = 3)
def zoA (m : Mn) (j : Nat) : (zdt m j).length <= 4 := by
 unfold zdt;refine jQ (wM _ _) ?_;simp; omega
def zjF (j : Nat) (h : j < 4) : ([4, 3, 2, 1] : List Int)[j]? = some (4 - (j : Int)) := by
 have : j = 0 \/ j = 1 \/ j = 2 \/ j = 3 := by omega
 rcases this with rfl | rfl | rfl | rfl <;> rfl
def zoB {m : Mn} {j : Nat} (h : j < 4) (Z : m.p (4 - (j : Int)) = 3) : zdt m j ++ [4 - (j : Int)] = zdt m (j + 1) := by
 unfold zdt;rw [jE, zjF j h, wU]; simp [Z]
def zpT {m : Mn} {j : Nat} (h : j < 4) (Z : ¬ m.p (4 - (j : Int)) = 3) : zdt m j = zdt m (j + 1) := by
 unfold zdt;rw [jE, zjF j h, wU]; simp [Z]
def zoC (m : Mn) : zdt m 4 = perfL m := rfl
def znk (m : Mn) (v : Int) (j : Nat) : zbl m v j * m.p (v + (j : Int)) = zbl m v (j + 1) := rfl
def zue (j : Nat) : dbl j * 2 = dbl (j + 1) := rfl
def zvs (j : Nat) : 2 * dbl j = dbl (j + 1) := by rw [← zue]; exact Int.mul_comm _ _
attribute [local irreducible] zbl dbl zdt perfL
def zlC (m : Mn) (v : Int) (hm : ckM m = 0) (U : 1 <= v) (h8 : v <= 8) : Fn prog 198 [mnA m, iv v] (tmA (yp m v)) := by
 have T : zbl m v 0 = 1 := by unfold zbl; rfl
 have Q : dbl 0 = 1 := by unfold dbl; rfl
 refine xV func198 ntmps198 (fun g w d => ?_);apply ye;refine zF ?_;refine zh ?_;apply yE;refine yL ?_;apply yg;apply ye;refine yL ?_;apply xS;refine zq (fun j => [(1, iv v), (2, .ptr 2 0 0 0), (4, .ptr 4 0 0 0), (5, iv (zbl m v j)), (6, iv 1), (7, iv (v + (j : Int)))]) (fun j => [(2, .box (mnE m) 23), (4, .box [iv 0, iv 0] 83)]) ((5 - v).toNat) (fun j N => ?_) (h0 := yd);refine gd ?_ ?_<;>intro J
 ·have I : j < (5 - v).toNat := by omega
  have H := zkB (m := m) hm U j;have G := zuc j (by omega);have E := zhO hm (v + j) (by omega);have Z := znk m v j;have xT : 0 <= zbl m v j * m.p (v + (j : Int)) /\ zbl m v j * m.p (v + (j : Int)) <= 1000 := by rcases E with e | e <;> rw [e] <;> omega
  refine gc (zjR m (v + (j : Int)) (by omega) (by omega)) ?_;refine yw (j + 1)
 ·have V : j = (5 - v).toNat := by omega
  subst V;apply k8;apply yg;apply ye;refine yh ?_;apply xS;refine zq (fun j => [(1, iv v), (2, .ptr 2 0 0 0), (4, .ptr 4 0 0 0), (5, iv (zbl m v (5 - v).toNat)), (6, iv (dbl j)), (8, iv (5 + (j : Int)))]) (fun j => [(2, .box (mnE m) 23), (4, .box [iv 0, iv 0] 83)]) ((v - 5).toNat) (fun j N => ?_) (h0 := yd);refine gd ?_ ?_<;>intro x4
  ·have H := zud j (by omega);have Z := zue j;refine gq ?_;refine yw (j + 1)
  ·have V : j = (v - 5).toNat := by omega
   subst V;refine gq ?_;refine k7 (.one (.cellA rfl rfl rfl rfl ty83 (xR ?_)));all_goals rfl
def zlD (m : Mn) (v : Int) : Fn prog 143 [mnA m, iv v] (.tup [tmA (if ckMV m v = 0 then yp m v else tmZ), iv (ckMV m v)]) := by
 refine xV func143 ntmps143 (fun g w d => ?_);refine gc (zcN m v) ?_;refine gd ?_ ?_<;>intro Z
 ·refine gq ?_;refine yx ty83 ?_ ?_;all_goals (first | rfl | (rw [j3 Z]; done) | (rw [j3 Z]; rfl) | (rw [j4 Z]; done) | (rw [j4 Z]; rfl) | exact zE Z)
 have V := zpS Z;refine gc (zlC m v V.1 V.2.1 V.2.2) ?_;refine yx ty83 ?_ ?_;all_goals (first | rfl | (rw [j3 Z]; done) | (rw [j3 Z]; rfl) | (rw [j4 Z]; done) | (rw [j4 Z]; rfl) | exact zE Z)
def zfJ (m : Mn) (v : Int) : Fn prog 150 [mnA m, iv v] (.tup [tmA (if ckMV m v = 0 then yp m v else tmZ), iv (ckMV m v)]) := by
 have Q : zbl m v 0 = 1 := by unfold zbl; rfl
 have N : dbl 0 = 1 := by unfold dbl; rfl
 refine xV func150 ntmps150 (fun g w d => ?_);refine gc (zcg m v) ?_;refine gd ?_ ?_<;>intro Z
 ·refine gq ?_;refine yx ty83 ?_ ?_;all_goals (first | rfl | (rw [j3 Z]; done) | (rw [j3 Z]; rfl) | (rw [j4 Z]; done) | (rw [j4 Z]; rfl) | exact zE Z)
 have V := zpS Z;have hm := V.1;have J := V.2.1;have h8 := V.2.2;apply yl;apply ye;refine yL ?_;apply yg;apply ye;refine yL ?_;apply xS;refine zq (fun j => [(1, iv v), (2, .ptr 2 0 0 0), (4, .ptr 4 0 0 0), (5, iv 0), (7, iv (zbl m v j)), (8, iv 1), (9, iv (v + (j : Int)))]) (fun j => [(2, .box (mnE m) 23), (4, .box [iv 0, iv 0] 83)]) ((5 - v).toNat) (fun j I => ?_) (h0 := yd);refine gd ?_ ?_<;>intro H
 ·have G : j < (5 - v).toNat := by omega
  have E := zkB (m := m) hm J j;have xT := zuc j (by omega);have hp := zhO hm (v + j) (by omega);have U := znk m v j;have x4 : 0 <= zbl m v j * m.p (v + (j : Int)) /\ zbl m v j * m.p (v + (j : Int)) <= 1000 := by rcases hp with e | e <;> rw [e] <;> omega
  refine gc (yX m (v + (j : Int))) ?_;refine yw (j + 1)
 ·have T : j = (5 - v).toNat := by omega
  subst T;apply k8;apply yg;apply ye;refine yL ?_;apply xS;refine zq (fun j => [(1, iv v), (2, .ptr 2 0 0 0), (4, .ptr 4 0 0 0), (5, iv 0), (7, iv (zbl m v (5 - v).toNat)), (8, iv (dbl j)), (10, iv (v - (j : Int)))]) (fun j => [(2, .box (mnE m) 23), (4, .box [iv 0, iv 0] 83)]) ((v - 5).toNat) (fun j I => ?_) (h0 := yd);refine gd ?_ ?_<;>intro x3
  ·have E := zud j (by omega);have U := zvs j;refine gq ?_;refine yw (j + 1)
  ·have T : j = (v - 5).toNat := by omega
   subst T;refine gq ?_;refine yx ty83 ?_ ?_;all_goals (first | rfl | (rw [j3 Z]; done) | (rw [j3 Z]; rfl) | (rw [j4 Z]; done) | (rw [j4 Z]; rfl) | exact zE Z)
def zb5 (m : Mn) : Fn prog 242 [mnA m] (.tup [yc (if ckM m = 0 then perfL m else []), iv (ckM m)]) := by
 have N : [] = zdt m 0 := by unfold zdt; rfl
 have V := zoC m;refine xV func242 ntmps242 (fun g w d => ?_);refine gc (zj m) ?_;refine gd ?_ ?_<;>intro Z
 ·apply ye;refine yy ?_;refine xU ?_;refine xQ (yd (ts := [(2, yc []), (3, iv (ckM m))]) (hs := [])) ?_;refine yj ?_ ?_;all_goals (first | (rw [j3 Z]; done) | rfl | (rw [j4 Z, ← V]; rfl) | (rw [j4 Z, ← V]; done) | exact zE Z)
 apply yl;apply ye;refine yh ?_;iterate 2 apply yg
 refine xZ (yF intE 3 1 5 5 rfl rfl) ?_;apply yi;refine yh ?_;apply xS;refine zq (fun j => [(1, .ptr 1 0 0 0), (5, .own 5), (6, iv (4 - (j : Int)))]) (fun j => [(1, .box (mnE m) 23), (5, .row intE (zdt m j) 3 1)]) 4 (fun j H => ?_) (h0 := yd);refine gd ?_ ?_<;>intro J
 ·have Q := zoA m j;refine gc (yX m (4 - (j : Int))) ?_;refine gd ?_ ?_<;>intro U
  ·have T := zoB (by omega) U;refine gq ?_;refine yz intE [_] ?_;refine gq ?_;refine yw (j + 1)
  ·have T := zpT (by omega) U;refine gq ?_;refine yw (j + 1)
 ·have I : j = 4 := by omega
  subst I;apply k8;apply ye;refine yy ?_;refine xU ?_;refine xQ (xP (k := 5) rfl) ?_;refine yj ?_ ?_;all_goals (first | (rw [j3 Z]; done) | rfl | (rw [j4 Z, ← V]; rfl) | (rw [j4 Z, ← V]; done) | exact zE Z)
end
section
attribute [local irreducible] Pur yu yq Ex X Fn Imp LeV LeB FnO It yD
def Mn.pl (m : Mn) : Bool := decide (m.Max = 2) && decide (m.Mod = 2) && decide (m.Tem = 2) && decide (m.Pro = 2)
def durR (m : Mn) : Nat -> Int -> Tm
 | 0, v => if m.pl = true then mulV (yp m v) ⟨2, 3⟩ else yp m v
 | n + 1, v => if m.pl = true then mulV (yp m v) ⟨2, 3⟩ else if m.p v = 3 then mulV (yp m v) ⟨2, 3⟩ else mulV (durR m n (v + 1)) ⟨2, 1⟩
def durT (m : Mn) (v : Int) : Tm := durR m (5 - v).toNat v
def znl {m : Mn} {v : Int} (h : m.pl = true) : durT m v = mulV (yp m v) ⟨2, 3⟩ := by
 unfold durT; cases (5 - v).toNat <;> simp [durR, h]
def zlE {m : Mn} {v : Int} (h : m.pl = false) (Z : 5 <= v) : durT m v = yp m v := by
 unfold durT; rw [show (5 - v).toNat = 0 by omega]; simp [durR, h]
def zpU {m : Mn} {v : Int} (h : m.pl = false) (V : v < 5) (Z : m.p v = 3) : durT m v = mulV (yp m v) ⟨2, 3⟩ := by
 unfold durT; rw [show (5 - v).toNat = (4 - v).toNat + 1 by omega]; simp [durR, h, Z]
def zpV {m : Mn} {v : Int} (h : m.pl = false) (V : v < 5) (Z : ¬ m.p v = 3) : durT m v = mulV (durT m (v + 1)) ⟨2, 1⟩ := by
 unfold durT; rw [show (5 - v).toNat = (5 - (v + 1)).toNat + 1 by omega]; simp [durR, h, Z]
def zaT {m : Mn} {v : Int} (hm : ckM m = 0) (Z : 1 <= v) (V : v <= 8) : Fn prog 143 [mnA m, iv v] (.tup [tmA (yp m v), iv 0]) := by
 have h := zlD m v
 have h0 : ckMV m v = 0 := by
  unfold ckM at hm; unfold ckMV;split at hm
  ·rw [j4 (by assumption), j4 ⟨Z, V⟩]
  ·simp at hm
 rw [h0, j4 rfl] at h; exact h
def zfl {m : Mn} {v : Int} (hm : ckM m = 0) (Z : 1 <= v) (V : v <= 8) : Fn prog 177 [mnA m, iv v] (.tup [iv (m.p v), iv 0]) := by
 have h := zdT m v
 have h0 : ckMV m v = 0 := by
  unfold ckM at hm; unfold ckMV;split at hm
  ·rw [j4 (by assumption), j4 ⟨Z, V⟩]
  ·simp at hm
 rw [h0, j4 rfl] at h; exact h
attribute [local irreducible] yp durT mulV
def zel (t : Tm) : Fn prog 296 [tmA t] (tmA (mulV t ⟨2, 3⟩)) := by
 refine xV func296 ntmps296 (fun g w d => ?_);refine gc (zdS t ⟨2, 3⟩) ?_;refine k7 (.one (.cellA rfl rfl rfl rfl ty83 (xR ?_)));all_goals rfl
def zjh (m : Mn) (hm : ckM m = 0) (v : Int) (Q : 1 <= v) (N : v <= 8) : FnO prog 295 [iv v, .ptr 2000000 0 0 0, .ptr 2000001 0 0 0, .ptr 2000002 0 0 0] [(2000000, .box (mnE m) 23), (2000001, .box [.bool m.pl] 4), (2000002, .box [.fn 295 [.ptr 2000000 0 0 0, .ptr 2000001 0 0 0, .ptr 2000002 0 0 0]] 324)] [2000000, 2000001, 2000002] (tmA (durT m v)) [(2000000, .box (mnE m) 23), (2000001, .box [.bool m.pl] 4), (2000002, .box [.fn 295 [.ptr 2000000 0 0 0, .ptr 2000001 0 0 0, .ptr 2000002 0 0 0]] 324)] := by
 induction hn : (5 - v).toNat using Nat.strongRecOn generalizing v
 rename_i n ih;refine kI (ts := [(0, iv v), (1, .ptr 2000000 0 0 0), (2, .ptr 2000001 0 0 0), (3, .ptr 2000002 0 0 0)]) (rv := [.cell 5 83]) (n := 47) (cs := [.ptr 2000000 0 0 0, .ptr 2000001 0 0 0, .ptr 2000002 0 0 0]) (by kernel_rfl) func295 rfl ntmps295 rfl rfl (by simp) rfl rfl rfl rfl (fun g w d vs => ?_);refine gc (zaT hm Q N) ?_;refine gc (zfl hm Q N) ?_;refine gd ?_ ?_<;>intro Z
 ·have V := znl (v := v) Z;refine gq ?_;refine yM (zel _) ?_;refine xY ?_;apply k9;refine xU ?_;refine zka.mk [(5, .ptr 5 0 0 0)] [(5, .box (tmE (mulV (yp m v) ⟨2, 3⟩)) 83)] (.inr rfl) (.one (.cellA rfl rfl rfl rfl ty83 (xR ?_)));all_goals rw [V]
 refine gd ?_ ?_<;>intro U
 ·have V := zlE Z U;apply ye;refine ya ?_;refine xY ?_;apply k9;refine xU ?_;refine zka.mk [(5, .ptr 5 0 0 0)] [(5, .box (tmE (yp m v)) 83)] (.inr rfl) (.one (.cellA rfl rfl rfl rfl ty83 (xR ?_)));all_goals rw [V]
 refine gd ?_ ?_<;>intro T
 ·have V := zpU Z U T;refine gq ?_;refine yM (zel _) ?_;refine xY ?_;apply k9;refine xU ?_;refine zka.mk [(5, .ptr 5 0 0 0)] [(5, .box (tmE (mulV (yp m v) ⟨2, 3⟩)) 83)] (.inr rfl) (.one (.cellA rfl rfl rfl rfl ty83 (xR ?_)));all_goals rw [V]
 have V := zpV Z U T;refine gq ?_;refine zV [(2000000, 2000000), (2000001, 2000001), (2000002, 2000002)] (ih (5 - (v + 1)).toNat (by omega) (v + 1) (by omega) (by omega) rfl) ?_;refine gq ?_;refine yM (zdS (durT m (v + 1)) ⟨2, 1⟩) ?_;iterate 3 refine ya ?_
 refine zh ?_;refine xY ?_;refine ya ?_;apply yE;refine ya ?_;refine xY ?_;apply k9;refine xU ?_;refine zka.mk [(5, .ptr 5 0 0 0)] [(5, .box (tmE (mulV (durT m (v + 1)) ⟨2, 1⟩)) 83)] (.inr rfl) (.one (.cellA rfl rfl rfl rfl ty83 (xR ?_)));all_goals rw [V]
def zhe (m : Mn) (hm : ckM m = 0) (v : Int) (Z : 1 <= v) (V : v <= 8) : Fn prog 253 [mnA m, iv v] (tmA (durT m v)) := by
 have U : (decide (m.Max = 2) && decide (m.Mod = 2) && decide (m.Tem = 2) && decide (m.Pro = 2)) = m.pl := by unfold Mn.pl; rfl
 refine xV func253 ntmps253 (fun g w d => ?_);apply ye;refine zF ?_;refine zh ?_;apply yE;iterate 3 refine ya ?_
 refine xX 3 ?_;refine ym ?_;iterate 3 refine xW ?_
 iterate 2 refine ym ?_
 iterate 3 refine xW ?_
 iterate 2 refine ym ?_
 iterate 3 refine xW ?_
 refine ge ?_;refine zV [(2000000, 2), (2000001, 5), (2000002, 6)] (zjh m hm v Z V) ?_;refine gq ?_;refine k7 (.one (.cellA rfl rfl rfl rfl ty83 (xR ?_)));all_goals rfl
def zlF (m : Mn) (v : Int) : Fn prog 267 [mnA m, iv v] (.tup [tmA (if ckMV m v = 0 then durT m v else tmZ), iv (ckMV m v)]) := by
 refine xV func267 ntmps267 (fun g w d => ?_);refine gc (zaV m) ?_;refine gd ?_ ?_<;>intro Z
 ·have hE : ckMV m v = ckM m := by unfold ckMV ckM at *; split <;> simp_all
  refine gq ?_;refine yx ty83 ?_ ?_;all_goals (first | exact zE hE | (rw [hE, j4 rfl]; done) | (rw [hE, j4 rfl]; rfl) | (rw [hE, j3 Z]; rfl))
 apply yl;apply yg;apply ye;iterate 2 refine ya ?_
 refine xX 2 ?_;refine ym ?_;iterate 2 refine xW ?_
 refine gf ?_ ?_<;>intro V
 ·have hE : ckMV m v = 2 := by unfold ckM at Z; unfold ckMV; split at Z <;> simp_all; omega
  refine gq ?_;refine yx ty83 ?_ ?_;all_goals (first | exact zE hE | (rw [hE, j4 rfl]; done) | (rw [hE, j4 rfl]; rfl) | (rw [hE, j3 Z]; rfl))
 have hE : ckMV m v = 0 := by unfold ckM at Z; unfold ckMV; split at Z <;> simp_all <;> omega
 refine gc (zhe m Z v (by omega) (by omega)) ?_;refine yx ty83 ?_ ?_;all_goals (first | exact zE hE | (rw [hE, j4 rfl]; done) | (rw [hE, j4 rfl]; rfl) | (rw [hE, j3 Z]; rfl))
end
section
def zgc (f : Mn -> Int -> Bool) : Bool := ([2, 3] : List Int).all fun a => ([2, 3] : List Int).all fun b => ([2, 3] : List Int).all fun c => ([2, 3] : List Int).all fun e => ([1, 2, 3, 4, 5, 6, 7, 8] : List Int).all fun v => f ⟨a, b, c, e⟩ v
theorem zbQ {f : Mn -> Int -> Bool} (h : zgc f = true) {m : Mn} {v : Int} (hm : ckM m = 0) (V : 1 <= v) (U : v <= 8) : f m v = true := by
 have ho : m.Ok := by
  unfold ckM at hm; split at hm
  ·assumption
  ·simp at hm
 obtain ⟨a, b, c, e⟩ := m;have hv : v ∈ ([1, 2, 3, 4, 5, 6, 7, 8] : List Int) := by simp; omega
 have Z : ∀ x : Int, two3 x -> x ∈ ([2, 3] : List Int) := fun x hx => by simpa [two3] using hx
 unfold zgc at h;exact jB.1 (jB.1 (jB.1 (jB.1 (jB.1 h a (Z _ ho.1)) b (Z _ ho.2.1)) c (Z _ ho.2.2.1)) e (Z _ ho.2.2.2)) v hv
def zuf (m : Mn) (v : Int) : Bool :=
 decide (mulV (yp m v) ⟨2, 3⟩ = tmkT ((yp m v).N * 2) ((yp m v).D * 3)) && decide (mulV (durT m v) ⟨2, 1⟩ = tmkT ((durT m v).N * 2) ((durT m v).D * 1)) &&
 decide (ckT (yp m v) = 0) && decide (ckT (durT m v) = 0) && decide ((yp m v).N <= 81) && decide ((yp m v).D <= 8) && decide ((durT m v).N <= 81) && decide ((durT m v).D <= 24) && decide (1 <= (yp m v).N) && decide (1 <= (durT m v).N)
def zoD : zgc zuf = true := by kernel_rfl
def zeT {m : Mn} {v : Int} (hm : ckM m = 0) (Z : 1 <= v) (V : v <= 8) : mulV (yp m v) ⟨2, 3⟩ = tmkT ((yp m v).N * 2) ((yp m v).D * 3) /\ mulV (durT m v) ⟨2, 1⟩ = tmkT ((durT m v).N * 2) ((durT m v).D * 1) ∧
 ckT (yp m v) = 0 /\ ckT (durT m v) = 0 /\ (yp m v).N <= 81 /\ (yp m v).D <= 8 /\ (durT m v).N <= 81 /\ (durT m v).D <= 24 /\ 1 <= (yp m v).N /\ 1 <= (durT m v).N := by
 have h := zbQ zoD hm Z V;unfold zuf at h;simp only [j7, wA] at h;obtain ⟨⟨⟨⟨⟨⟨⟨⟨⟨a, b⟩, c⟩, d⟩, e⟩, f⟩, g⟩, i⟩, j⟩, k⟩ := h;exact ⟨a, b, c, d, e, f, g, i, j, k⟩
def zlG (m : Mn) (hm : ckM m = 0) : ((perfL m).length : Int) = 0 ↔ m.pl = true := by
 have h : ∀ v : Int, 1 <= v -> m.p v = 2 \/ m.p v = 3 := zhO hm;have a := h 1 (by omega); have b := h 2 (by omega); have c := h 3 (by omega); have e := h 4 (by omega);have e1 : m.p 1 = m.Max := rfl;have e2 : m.p 2 = m.Mod := rfl;have e3 : m.p 3 = m.Tem := rfl;have e4 : m.p 4 = m.Pro := rfl;unfold perfL Mn.pl;rw [e1] at a; rw [e2] at b; rw [e3] at c; rw [e4] at e;simp only [u4, e1, e2, e3, e4, List.filter_nil];rcases a with a | a <;> rcases b with b | b <;> rcases c with c | c <;> rcases e with e | e <;> simp [a, b, c, e]
end
end Go.Rse
