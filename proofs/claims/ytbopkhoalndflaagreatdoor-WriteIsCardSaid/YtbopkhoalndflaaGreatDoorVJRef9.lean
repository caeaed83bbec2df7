/-
  Walks.
-/
import Derived.Test.YtbopkhoalndflaaGreatDoorVJDot9
set_option linter.all false
namespace Go.Rse
open Go Go.Proofs Go.Proofs.Tryz
section
attribute [local irreducible] Pur yu yq Ex X Fn Imp LeV LeB FnO It yD
def zaK (m : Mn) (v : Int) : Fn prog 132 [mnA m, iv v] (.tup [iv (m.aV v), iv (ckMV m v)]) := zfb m v
def zfm (l : List Sg) (k : Nat) : Int := match k with
 | 0 => -1
 | j + 1 => match l[j]? with | some p => if p.Kind = 3 then -1 else (j : Int) | none => -1
theorem zjG {L : List Int} {k : Nat} {x v : Int} (h : L[k]? = some x) : ownV (L.drop k) v = if x = 0 \/ x = v then x else ownV (L.drop (k + 1)) v := by
 grind [List.drop_eq_getElem_cons, ownV]
def zpW (m : Mn) (s : Sg) : 1 <= (mngR m s).length /\ (mngR m s).length <= 2 := by
 grind [mngR]
def zjH {l : List Sg} {k : Nat} {s : Sg} {α : Type} (f : Int -> α) (h : l[k]? = some s) (Z : s.Kind = 3) : (yU l k).map f ++ [f k] = (yU l (k + 1)).map f := by
 simp [yU, h, Z]
def zlH {l : List Sg} {k : Nat} {s : Sg} {α : Type} (f : Int -> α) (h : l[k]? = some s) (Z : ¬ s.Kind = 3) : (yU l k).map f = (yU l (k + 1)).map f := by
 simp [yU, h, Z]
def zug {m : Mn} {l : List Sg} (h : ckR m l = 0) {k : Nat} {s : Sg} (hs : l[k]? = some s) (V : s.Kind = 3) : ∃ p : Sg, 0 < k /\ l[((k : Int) - 1).toNat]? = some p /\ zes l k = some p /\ p.Value <= 8 := by
 rw [← zm0] at h;cases k with
 | zero =>
  have := (zas (zee h).2 1 (j1.1 hs).1).2 0 s (by omega) hs;simp_all [sgF]
 | succ j =>
  have U := (j1.1 hs).1;obtain ⟨p, Z⟩ : ∃ p, l[j]? = some p := ⟨_, lgg (by omega)⟩;have e : (((j + 1 : Nat) : Int) - 1).toNat = j := by omega
  exact ⟨p, by omega, by rw [e]; exact Z, by grind [zes], (zkg h hs V Z).2.2.2.1⟩
def zrY {m : Mn} {l : List Sg} {k : Nat} {s : Sg} (hs : l[k]? = some s) (Z : s.Kind = 3) :
 (zfm l k < 0 /\ sgR m l k s = 13) \/ (∃ p : Sg, 0 <= zfm l k /\ l[(zfm l k).toNat]? = some p /\ sgR m l k s = if p.Kind = 2 /\ m.aV p.Value = 0 then 13 else 0) := by
 cases k with
 | zero => simp_all [zfm, sgR]
 | succ j =>
  grind [zfm, sgR]
def zlI {l : List Sg} {k : Nat} (Z : k < l.length) : zfm l k = if 0 < (k : Int) /\ ¬ (l.getD ((k : Int) - 1).toNat default).Kind = 3 then (k : Int) - 1 else -1 := by
 cases k <;> grind [zfm]
def zpX {l : List Sg} {k : Nat} {v : Int} (Z : k < l.length) (hv : v <= 8) : ((k : Int) + 1 = (l.length : Int) \/ v < (l.getD ((k : Int) + 1).toNat default).Value) ↔ zh4 l k > v := by
 grind [zh4]
def zfK (l : List Sg) (k : Nat) (V : k < l.length) (hl : l.length <= 4000000000) : Fn prog 131 [sgsA l, iv (k : Int)] (iv (zfm l k)) := by
 refine xV func131 ntmps131 (fun g w d => ?_);apply ye;refine yh ?_;apply yg;apply ye;iterate 2 refine ya ?_
 refine xX 2 ?_;refine ym ?_;iterate 7 refine xW ?_
 refine gf ?_ ?_<;>intro Z
 ·have HL := Z;refine gq ?_;all_goals (congr 1; rw [zlI V, j4 HL])
 apply yl;apply ye;refine yh ?_;refine xU ?_;refine zav ?_;simp_all [zlI]; omega
def zgd (l : List Int) (v : Int) (hl : l.length <= 4000000000) : Fn prog 281 [yc l, iv v] (iv (ownV l v)) := by
 refine xV func281 ntmps281 (fun g w d => ?_);refine gq ?_
 refine zdW (ι := Nat) (fun (k : Nat) => [(0, yc l), (1, iv v), (5, iv (k : Int))]) (fun (k : Nat) => []) (fun (k : Nat) => k <= l.length /\ ownV l v = ownV (l.drop k) v) (fun (k : Nat) => l.length - k) 0 (fun k Z => ?_) (hJ := by
  simp_all)
 obtain ⟨V, U⟩ := Z;refine gd ?_ ?_<;>intro T
 ·obtain ⟨x, hx⟩ : ∃ x, l[k]? = some x := ⟨_, lgg (by omega)⟩;have Q : l[(k : Int).toNat]? = some x := by simpa using hx
  apply yl;apply yg;apply xS;apply ye;iterate 5 refine ya ?_
  refine xX 5 ?_;refine ym ?_;iterate 6 refine xW ?_
  refine gf ?_ ?_<;>intro N
  ·apply ye;(iterate 2 refine ya ?_);refine yy ?_;refine xU ?_;refine zav ?_;simp_all [zjG]
  refine gq ?_
  refine yw (k + 1) (hJ := by
   grind [zjG])
 ·apply k8;apply ye;refine yh ?_;refine xU ?_;refine zav ?_
  grind [ownV]
set_option maxHeartbeats 2000000 in
def za3 (m : Mn) (l : List Sg) (hl : l.length <= 1000) : Fn prog 81 [mnA m, sgsA l] (iv (ckR m l)) := by
 refine xV func81 ntmps81 (fun g w d => ?_);refine gc (zj m) ?_;refine gd ?_ ?_<;>intro H
 ·apply ye;refine yL ?_;refine xU ?_;refine zav ?_;simp_all [ckR]
 refine gq ?_
 refine zdW (ι := Nat) (fun (k : Nat) => [(1, sgsA l), (2, .ptr 2 0 0 0), (6, iv (k : Int))]) (fun (k : Nat) => [(2, .box (mnE m) 23)]) (fun (k : Nat) => k <= l.length /\ ckR m l = zcl m l k (l.drop k)) (fun (k : Nat) => l.length - k) 0 (fun k G => ?_) (hJ := by
  simp_all [ckR])
 obtain ⟨E, Z⟩ := G;refine gd ?_ ?_<;>intro xT
 ·obtain ⟨s, hs⟩ : ∃ s, l[k]? = some s := ⟨_, lgg (by omega)⟩;have x4 : l[(k : Int).toNat]? = some s := by simpa using hs
  refine gd ?_ ?_<;>intro U
  ·refine gd ?_ ?_<;>intro x3
   ·apply ye;(iterate 6 refine ya ?_);refine xX 6 ?_;refine ym ?_;(iterate 6 refine xW ?_);refine gf ?_ ?_<;>intro x2
    ·have V : sgR m l k s = 2 := by unfold sgR; rw [j4 (.inl U), j3 (by omega)]
     refine gq ?_;all_goals (rw [Z, zbk hs (by rw [V]; decide), V])
    have h0 : sgR m l k s = 0 := by unfold sgR; rw [j4 (.inl U), j4 (by omega)]
    refine gq ?_;refine yw (k + 1) (hJ := by exact ⟨by omega, by rw [Z, zdH hs h0]⟩)
   omega
  ·refine gd ?_ ?_<;>intro Q
   ·apply ye;(iterate 6 refine ya ?_);refine xX 6 ?_;refine ym ?_;(iterate 6 refine xW ?_);refine gf ?_ ?_<;>intro x1
    ·have V : sgR m l k s = 2 := by unfold sgR; rw [j4 (.inr Q), j3 (by omega)]
     apply ye;refine yh ?_;refine xU ?_;refine zav ?_;simp_all [zbk]
    have h0 : sgR m l k s = 0 := by simp_all [sgR]
    refine gq ?_
    refine yw (k + 1) (hJ := by
     grind [zdH])
   ·refine gd ?_ ?_<;>intro N
    ·have J := zrY (m := m) hs N;refine gc (zfK l k (by omega) (by omega)) ?_;refine gd ?_ ?_<;>intro x0
     ·have V : sgR m l k s = 13 := by
       rcases J with h | ⟨p, h, _⟩
       ·exact h.2
       ·omega
      apply ye;refine yh ?_;refine xU ?_;refine zav ?_;simp_all [zbk]
     obtain ⟨p, w2, hp, I⟩ : ∃ p : Sg, 0 <= zfm l k /\ l[(zfm l k).toNat]? = some p /\ sgR m l k s = if p.Kind = 2 /\ m.aV p.Value = 0 then 13 else 0 := by
      grind
     refine gq ?_;refine yW [8,9,50,51,52,53,54,55,56,57,58,59] [0,0,0,6,14,30,63,127,255,255,511,2047] mo ?_;(iterate 6 refine yb ?_);refine yH (zaK m _) ?_;(iterate 5 refine yb ?_);refine yA ?_;apply yE;(iterate 6 refine ya ?_);refine xX 6 ?_;refine ym ?_;(iterate 2 refine xW ?_);refine gf ?_ ?_<;>intro T
     ·have V : sgR m l k s = 13 := by rw [I, j4 T]
      apply ye;refine yh ?_;refine xU ?_;refine zav ?_;simp_all [zbk]
     have h0 : sgR m l k s = 0 := by omega
     refine gq ?_
     refine yw (k + 1) (hJ := by
      grind [zdH])
    ·have V : sgR m l k s = 8 := by unfold sgR; rw [j3 (by omega), j3 (by omega)]
     apply ye;refine yh ?_;refine xU ?_;refine zav ?_;simp_all [zbk]
 ·refine gq ?_;all_goals (rw [Z, w4 (by omega)]; rfl)
def zbw (m : Mn) (s : Sg) : Fn prog 280 [mnA m, sgA s] (yc (mngR m s)) := by
 refine xV func280 ntmps280 (fun g w d => ?_);refine gc (zaK m s.Value) ?_;refine gd ?_ ?_<;>intro Z
 ·refine gq ?_;refine yz intE [_] ?_;refine yh ?_;refine xU ?_;refine xQ (xP (k := 19) rfl) ?_;refine gq ?_;all_goals (first | (simp [mngR, *]; rfl) | (have h0 : ¬ m.aV s.Value = 0 := (by omega); simp [mngR, *]; rfl))
 refine gd ?_ ?_<;>intro V
 ·apply ye;refine yz intE [_] ?_;refine yh ?_;refine xU ?_;refine xQ (xP (k := 23) rfl) ?_;refine gq ?_;all_goals (first | (simp [mngR, *]; rfl) | (have h0 : ¬ m.aV s.Value = 0 := (by omega); simp [mngR, *]; rfl))
 refine gq ?_;refine yM (yX m s.Value) ?_;refine ya ?_;refine xX 5 ?_;refine ym ?_;iterate 2 refine xW ?_
 refine gf ?_ ?_<;>intro U
 ·apply ye;refine yz intE [_] ?_;refine yh ?_;refine xU ?_;refine xQ (xP (k := 34) rfl) ?_;refine gq ?_;all_goals (first | (simp [mngR, *]; rfl) | (have h0 : ¬ m.aV s.Value = 0 := (by omega); simp [mngR, *]; rfl))
 refine gc (yX m s.Value) ?_;refine gd ?_ ?_<;>intro T
 ·refine gq ?_;refine yz intE [_, _] ?_;refine yh ?_;refine xU ?_;refine xQ (xP (k := 42) rfl) ?_;refine gq ?_;all_goals (first | (simp [mngR, *]; rfl) | (have h0 : ¬ m.aV s.Value = 0 := (by omega); simp [mngR, *]; rfl))
 refine gd ?_ ?_<;>intro Q
 ·refine gq ?_;refine yz intE [_] ?_;refine yh ?_;refine xU ?_;refine xQ (xP (k := 48) rfl) ?_;refine gq ?_;all_goals (first | (simp [mngR, *]; rfl) | (have h0 : ¬ m.aV s.Value = 0 := (by omega); simp [mngR, *]; rfl))
 refine gq ?_;refine yz intE [_, _] ?_;refine yh ?_;refine xU ?_;refine xQ (xP (k := 52) rfl) ?_;refine gq ?_;all_goals (first | (simp [mngR, *]; rfl) | (have h0 : ¬ m.aV s.Value = 0 := (by omega); simp [mngR, *]; rfl))
theorem zdP (m : Mn) (l : List Sg) (hl : l.length <= 1000) : Fn prog 283 [mnA m, sgsA l] (.tup [zcX (if ckR m l = 0 then mnsR m l else []), iv (ckR m l)]) := by
 refine xV func283 ntmps283 (fun g w d => ?_);refine gc (za3 m l hl) ?_;refine gd ?_ ?_<;>intro Z
 ·apply ye;refine yy ?_;refine xU ?_;refine xQ (yd (ts := [(4, zcX []), (5, iv (ckR m l))]) (hs := [])) ?_;refine yj ?_ ?_;all_goals simp_all
 apply yl;apply ye;refine yh ?_;iterate 2 apply yg
 refine xZ (yF zi9 46 1 7 7 rfl rfl) ?_;apply yi;refine yh ?_;apply xS;refine zq (fun k => [(1, sgsA l), (2, .ptr 2 0 0 0), (7, .own 7), (8, iv (k : Int))]) (fun k => [(2, .box (mnE m) 23), (7, .row zi9 ((yU l k).map (zf5 m l)) 46 1)]) l.length (fun k hk => ?_) (h0 := yd);refine gd ?_ ?_<;>intro J
 ·obtain ⟨s, hs⟩ : ∃ s, l[k]? = some s := ⟨_, lgg (by omega)⟩;have I : l[(k : Int).toNat]? = some s := by simpa using hs
  have H := zbT l k;have G : ((yU l k).map (zf5 m l)).length <= 1000 := by simp; omega
  refine gd ?_ ?_<;>intro U
  ·obtain ⟨p, E, hp, Q, xT⟩ := zug Z hs U;have V := zjH (zf5 m l) hs U;rw [show zf5 m l k = mngR m p by unfold zf5; rw [Q]] at V;apply yg;refine yW [9,28,29,30,31,32,33,34] [0,0,0,4,14,30,63,127] mo ?_;(iterate 6 refine yb ?_);refine yH (zbw m _) ?_;refine yb ?_;refine yA ?_;refine gq ?_;refine yz zi9 [_] ?_;refine gq ?_;refine yw (k + 1)
  ·have V := zlH (zf5 m l) hs U;refine gq ?_;refine yw (k + 1)
 ·have N : k = l.length := by omega
  subst N;have T : (yU l l.length).map (zf5 m l) = mnsR m l := rfl;apply k8;apply ye;refine yy ?_;refine xU ?_;refine xQ (xP (k := 7) rfl) ?_;refine yj ?_ ?_;all_goals (first | (simp [Z]; done) | (rw [j4 Z, ← T]; rfl) | (rw [j3 Z]) | exact zE Z | rfl)
set_option maxHeartbeats 4000000 in
theorem zfL (m : Mn) (l : List Sg) (hl : l.length <= 1000) : Fn prog 237 [mnA m, sgsA l] (.tup [yc (if ckR m l = 0 then zo1 m l else []), iv (ckR m l)]) := by
 refine xV func237 ntmps237 (fun g w d => ?_);refine gc (za3 m l hl) ?_;refine gd ?_ ?_<;>intro V
 ·apply ye;refine yy ?_;refine xU ?_;refine xQ (yd (ts := [(4, yc []), (5, iv (ckR m l))]) (hs := [])) ?_;refine yj ?_ ?_;all_goals simp_all
 apply yl;apply ye;refine yh ?_;iterate 2 apply yg
 refine xZ (yF intE 3 1 7 7 rfl rfl) ?_;apply yi;refine yh ?_;apply xS;refine zq (fun k => [(1, sgsA l), (2, .ptr 2 0 0 0), (7, .own 7), (8, iv (k : Int))]) (fun k => [(2, .box (mnE m) 23), (7, .row intE ((yU l k).map (zcm m l)) 3 1)]) l.length (fun k hk => ?_) (h0 := yd);refine gd ?_ ?_<;>intro I
 ·obtain ⟨s, hs⟩ : ∃ s, l[k]? = some s := ⟨_, lgg (by omega)⟩;have H : l[(k : Int).toNat]? = some s := by simpa using hs
  have G := zbT l k;have E : ((yU l k).map (zcm m l)).length <= 1000 := by simp; omega
  refine gd ?_ ?_<;>intro T
  ·have Z := zlH (zcm m l) hs T;refine gq ?_;refine yw (k + 1)
  obtain ⟨p, xT, hp, N, x4⟩ := zug V hs T;have Z := zjH (zcm m l) hs T;rw [show zcm m l k = za9 m l k p by unfold zcm; rw [N]] at Z;have x3 := zpW m p;obtain ⟨c0, x2⟩ : ∃ c0, (mngR m p)[(0 : Int).toNat]? = some c0 := ⟨_, lgg (by simp; omega)⟩
  have x1 : (mngR m p).headD 0 = c0 := by
   cases hq : mngR m p <;> simp_all
  refine gq ?_;refine yW [9,30,31,32,33,34,35,36] [0,0,0,4,14,30,63,127] mo ?_;iterate 6 refine yb ?_
  refine yH (zbw m _) ?_;refine yb ?_;refine yA ?_;refine gq ?_;refine yW [10,11,37,38,39,40,41,42,43,44,45,46,47] [0,0,0,4,14,30,62,127,255,511,511,1023,4095] mo ?_;iterate 7 refine yb ?_
  refine yH (zaK m p.Value) ?_;iterate 5 refine yb ?_
  refine yA ?_;refine gd ?_ ?_<;>intro x0
  ·have U : za9 m l k p = c0 := by simp_all [za9]; omega
   rw [U] at Z;refine gq ?_;refine yz intE [_] ?_;refine gq ?_;refine yw (k + 1)
  ·have w2 := zpX (k := k) (v := p.Value) (by omega : k < l.length) (by omega);apply yg;refine yW [62,63,64,65,66,67,68,69,70,71,72,73,74,75,76,77,78,79,80,81,82] [0,1,0,4,15,31,63,63,191,511,1023,2047,63,63,8255,28735,61503,127039,262143,524287,1048575] mo ?_;(iterate 6 refine yb ?_);(iterate 13 refine k6 ?_);(iterate 2 refine yb ?_);refine yA ?_;refine gd ?_ ?_<;>intro v9
   ·have U : za9 m l k p = ownV (mngR m p) p.Value := by simp [za9]; omega
    rw [U] at Z;refine gq ?_;refine yM (zgd (mngR m p) p.Value (by omega)) ?_;refine yz intE [_] ?_;refine gq ?_;refine yw (k + 1)
   ·have U : za9 m l k p = m.aV p.Value := by simp [za9]; omega
    rw [U] at Z;refine gq ?_;refine yz intE [_] ?_;refine gq ?_;refine yw (k + 1)
 ·have J : k = l.length := by omega
  subst J;have Q : (yU l l.length).map (zcm m l) = zo1 m l := rfl;apply k8;apply ye;refine yy ?_;refine xU ?_;refine xQ (xP (k := 7) rfl) ?_;refine yj ?_ ?_;all_goals (first | (simp [V]; done) | (rw [j4 V, ← Q]; rfl) | (rw [j3 V]) | exact zE V | rfl)
def zaL (m : Mn) (l : List Sg) (hl : l.length <= 1000) : Fn prog 81 [mnA m, sgsA l] (iv (ckD m l)) := by
 rw [zm0]; exact za3 m l hl
def C_tactusref09_Meanings' (m : Mn) (l : List Sg) (hl : l.length <= 1000) : Fn prog 283 [mnA m, sgsA l] (.tup [zcX (if ckD m l = 0 then mnsD m l else []), iv (ckD m l)]) := by
 grind [zdP, zm0, zuQ]
def zfc (m : Mn) (l : List Sg) (hl : l.length <= 1000) : Fn prog 237 [mnA m, sgsA l] (.tup [yc (if ckD m l = 0 then zm m l else []), iv (ckD m l)]) := by
 grind [zfL, zm0, zrk]
end
section
attribute [local irreducible] Pur yu yq Ex X Fn Imp LeV LeB FnO It yD
def zam (m : Mn) (l : List Sg) (i : Int) : Bool := decide (m.Pro = 2) && zaB l i
def zI (m : Mn) (l : List Sg) : Nat -> List Int
 | 0 => []
 | k + 1 => if zam m l (k : Int) = true then zI m l k ++ [(k : Int)] else zI m l k
def zaq (m : Mn) (l : List Sg) : List Int := zI m l l.length
def zhf (m : Mn) (l : List Sg) : List (List AV) := (zaq m l).map fun i => [iv i]
def zeU {m : Mn} {l : List Sg} {k : Nat} (h : zam m l (k : Int) = true) : zI m l k ++ [(k : Int)] = zI m l (k + 1) := by
 conv => rhs; unfold zI
 rw [j4 h]
def zge {m : Mn} {l : List Sg} {k : Nat} (h : zam m l (k : Int) = false) : zI m l k = zI m l (k + 1) := by
 conv => rhs; unfold zI
 rw [j3 (by simp [h])]
def zgX (m : Mn) (l : List Sg) : ∀ k, (zI m l k).length <= k
 | 0 => jC _
 | k + 1 => by
  unfold zI;have := zgX m l k;split
  ·simp; omega
  ·omega
def zjI {m : Mn} {l : List Sg} (k : Nat) : ∀ d, ∃ r, zI m l (k + d) = zI m l k ++ r
 | 0 => ⟨[], by simp⟩
 | d + 1 => by
  obtain ⟨r, hr⟩ := zjI (m := m) (l := l) k d;show ∃ r, zI m l ((k + d) + 1) = _;by_cases h : zam m l ((k + d : Nat) : Int) = true
  ·rw [← zeU h, hr]; exact ⟨r ++ [((k + d : Nat) : Int)], by simp⟩
  ·rw [← zge (by simpa using h)]; exact ⟨r, hr⟩
def zoE {m : Mn} {l : List Sg} {k : Nat} (Z : k < l.length) (h : zam m l (k : Int) = true) : (zhf m l)[(zI m l k).length]? = some [iv (k : Int)] := by
 obtain ⟨r, hr⟩ := zjI (m := m) (l := l) (k + 1) (l.length - (k + 1));rw [show k + 1 + (l.length - (k + 1)) = l.length by omega, ← zeU h] at hr;unfold zhf zaq;rw [hr]; simp
def zgY {m : Mn} {l : List Sg} {j : Nat} {zs : List AV} (h : (zhf m l)[j]? = some zs) : ∃ i, (zaq m l)[j]? = some i /\ zs = [iv i] := by
 rw [zhf, jK] at h;cases Z : (zaq m l)[j]? with
 | none => simp [Z] at h
 | some k => simp [Z] at h; exact ⟨k, rfl, h.symm⟩
attribute [local irreducible] zaB zI zaq
def zhy (m : Mn) (l : List Sg) (hl : l.length <= 4000000000) : It prog 325 [.ept (fun _ : Unit => [.sl sgE l]) () 0, .ept (fun _ : Unit => mnE m) () 0] (zhf m l) := by
 have x2 : (zI m l 0).length = 0 := by unfold zI; rfl
 refine It.intro (ts := fun lY => [(0, .yv lY), (1, .ept (fun _ : Unit => [.sl sgE l]) () 0), (2, .ept (fun _ : Unit => mnE m) () 0)]) (n := 25) (by kernel_rfl) func325 rfl ntmps325 rfl (fun _ => rfl) (by simp) (fun g w d ds Y lY hY => ?_);apply ye;refine yy ?_;apply xS;refine zq (fun k => [(0, .yv lY), (1, .ept (fun _ : Unit => [.sl sgE l]) () 0), (2, .ept (fun _ : Unit => mnE m) () 0), (6, iv l.length), (7, iv (k : Int))]) (fun k => [(1000000, .yld (zI m l k).length true)]) l.length (fun k hk => ?_) (h0 := yd);refine gd ?_ ?_<;>intro x1
 ·apply yl;apply yg;apply xS;apply ye;refine yL ?_;apply yg;have H : (decide (m.Pro = 2) = false) \/ (decide (m.Pro = 2) = true /\ zaB l (k : Int) = false) \/ (decide (m.Pro = 2) = true /\ zaB l (k : Int) = true) := by cases decide (m.Pro = 2) <;> cases zaB l (k : Int) <;> simp
  rcases H with T | ⟨T, N⟩ | ⟨T, N⟩
  ·have U : (decide (m.Pro = 2) == true) = false := by rw [T]; rfl
   have Q : zam m l (k : Int) = false := by unfold zam; rw [T]; rfl
   have V := zge Q;have Z := j5 List.length V.symm;apply yi;(iterate 4 refine ya ?_);(iterate 3 refine zbO ?_);(iterate 2 refine ya ?_);(iterate 4 refine zbO ?_);refine gd ?_ ?_<;>intro G
   ·exact absurd G (by decide)
   refine gq ?_;refine yw (k + 1)
  ·have U : (decide (m.Pro = 2) == true) = true := by rw [T]; rfl
   have J : (zaB l (k : Int) == true) = false := by rw [N]; rfl
   have Q : zam m l (k : Int) = false := by unfold zam; rw [T, N]; rfl
   have V := zge Q;have Z := j5 List.length V.symm;apply yi;(iterate 4 refine ya ?_);iterate 2 refine zac ?_
   (refine zqE rfl rfl ?_ (zao rfl rfl rfl (kE _) (zf4 l hl (k : Int) (by omega) (by omega))) rfl rfl ?_; iterate 1 (· first | exact U | assumption | rfl | (simp_all; done) | omega))
   (iterate 2 refine ya ?_);(iterate 4 refine zbO ?_);refine gd ?_ ?_<;>intro E
   ·exact absurd E (by decide)
   refine gq ?_;refine yw (k + 1)
  ·have U : (decide (m.Pro = 2) == true) = true := by rw [T]; rfl
   have J : (zaB l (k : Int) == true) = true := by rw [N]; rfl
   have Q : zam m l (k : Int) = true := by unfold zam; rw [T, N]; rfl
   have V := zeU Q;have Z := j5 List.length V;have xT := zoE (by omega) Q;rw [jJ] at Z;apply yi;(iterate 4 refine ya ?_);iterate 2 refine zac ?_
   (refine zqE rfl rfl ?_ (zao rfl rfl rfl (kE _) (zf4 l hl (k : Int) (by omega) (by omega))) rfl rfl ?_; iterate 1 (· first | exact U | assumption | rfl | (simp_all; done) | omega))
   (iterate 2 refine ya ?_);(iterate 2 refine zac ?_);refine zcv hY rfl rfl rfl (fun _ => ⟨_, _, rfl, rfl, rfl, kE _, rfl, rfl, xT, fun b => ?_⟩) (fun h => absurd (h.symm.trans J) (by decide));refine zac ?_;refine gd ?_ ?_<;>intro I
   ·subst I;refine xU ?_;refine ⟨.inr rfl, _, false, rfl, fun hb => by simp at hb⟩
   subst I;have x3 : (zI m l (k + 1)).length = (zI m l k).length + 1 := Z.symm;clear Z;refine gq ?_;refine yw (k + 1)
 ·have x4 : k = l.length := by omega
  subst x4;apply k8;refine ⟨.inl rfl, _, true, rfl, fun _ => by unfold zhf zaq; rw [jU]⟩
def zji (m : Mn) (l : List Sg) : Fn prog 293 [mnA m, sgsA l] (.fn 325 [.ept (fun _ : Unit => [.sl sgE l]) () 0, .ept (fun _ : Unit => mnE m) () 0]) := by
 refine xV func293 ntmps293 (fun g w d => ?_);refine gq ?_;refine zeL ?_;refine ya ?_;apply yE;refine yL ?_;refine xU ?_;refine xQ ((yZ (k := 2) rfl rfl).trans (yZ (k := 3) rfl rfl)) ?_;refine gq ?_;all_goals exact zR
end
section
attribute [local irreducible] Pur yu yq Ex X Fn Imp LeV LeB FnO It yD
def zjJ (m : Mn) (l : List Sg) : (zaq m l).length <= l.length := by unfold zaq; exact zgX m l _
def zoF {α : Type} {a : List α} {j : Nat} {x : α} (h : a[j]? = some x) : a.take j ++ [x] = a.take (j + 1) := by
 rw [jE, h]; rfl
def zmv {m : Mn} {l : List Sg} {k : Int} (h : m.p 4 = 2 /\ zaB l k = true) : zam m l k = true := by
 have e : m.p 4 = m.Pro := rfl;rw [e] at h; unfold zam; rw [jI h.1, h.2]; rfl
def zoG {m : Mn} {l : List Sg} {k : Int} (h : ¬ m.p 4 = 2 \/ zaB l k = false) : zam m l k = false := by
 have e : m.p 4 = m.Pro := rfl;rw [e] at h; unfold zam;rcases h with h | h
 ·rw [j9 h]; rfl
 ·rw [h]; simp
attribute [local irreducible] zaB zI zaq zam ckD
def zjj (m : Mn) (z : List Sg) (hl : z.length <= 1000) : FnO prog 249 [mnA m, sgsA z] [] [] (.tup [.own 39, iv (ckD m z)]) [(39, .row intE (if ckD m z = 0 then zaq m z else []) 3 1)] := by
 refine kQ (ts := [(0, mnA m), (1, sgsA z)]) (rv := [.tmp 4, .tmp 5]) (n := 24) (cs := []) (by kernel_rfl) func249 rfl ntmps249 rfl rfl (by simp) rfl rfl rfl rfl (fun g w d vh => ?_);refine gc (zb8 m z hl) ?_;refine gd ?_ ?_<;>intro Z
 ·have hE : [] = (if ckD m z = 0 then zaq m z else []) := by rw [j3 Z]
  apply ye;refine yy ?_;refine xU ?_;refine zn3.imp (yF intE 3 1 4 39 rfl rfl) ?_;refine zn3.mk (ts := [(4, .own 39), (5, iv (ckD m z))]) (.inr rfl) (yd) (.many (by decide) (.cons (.tmp rfl (xR rfl)) (.cons (.tmp rfl (xR rfl)) .nil)))
 have U := zjJ m z;apply yl;apply ye;refine zh ?_;apply k9;iterate 2 apply yg
 refine xZ (zbZ intE 3 1 7 39 46 rfl rfl) ?_;refine gq ?_;refine yM (zji m z) ?_;apply k9;apply xS;have T : [] = (zaq m z).take 0 := by simp
 have Q : (zaq m z).take (zhf m z).length = (if ckD m z = 0 then zaq m z else []) := by
  rw [j4 Z]; unfold zhf; rw [jU, jH]
 refine X.range (sl := [7]) (fun j => ([.ptr 7 0 0 0], [(1000001, .hold vh []), (7, .box [.own 39] 46), (39, .row intE ((zaq m z).take j) 3 1)])) (fun j => True) 900001 900002 rfl rfl (by decide) (fun j zs V => by obtain ⟨i, _, rfl⟩ := zgY V; rfl) (zhy m z (by omega)) trivial rfl rfl (by decide) (wF _) (by simp) (fun j zs V => by obtain ⟨i, _, rfl⟩ := zgY V; rfl) (fun _ => rfl) rfl rfl (fun l o us => yd) (trivial) (fun j zs V hJ l ready busy rb vs g w H N => ?_) (fun hJ => ?_)
 ·obtain ⟨i, hi, rfl⟩ := zgY V;have J := zoF hi;have I : ((zaq m z).take j).length <= 1000 := by simp; omega
  apply yi;refine yh ?_;refine ⟨rfl, rfl, ?_⟩;refine gq ?_;refine yz intE [_] ?_;iterate 2 refine xY ?_
  apply k9;refine ⟨[.ptr 7 0 0 0], [(1000001, .hold vh []), (7, .box [.own 39] 46), (39, .row intE ((zaq m z).take (j + 1)) 3 1)], yd, rfl, trivial⟩
 apply ye;refine yy ?_;refine xU ?_;refine zn3.mk (ts := [(4, .own 39), (5, iv (ckD m z))]) (.inr rfl) (yd) (.many (by decide) (.cons (.tmp rfl (xR rfl)) (.cons (.tmp rfl (xR rfl)) .nil)))
def zfd (m : Mn) (l : List Sg) (hl : l.length <= 1000) : Fn prog 282 [mnA m, sgsA l] (.tup [yc (if ckD m l = 0 then zaq m l else []), iv (ckD m l)]) := by
 have J : [] = zI m l 0 := by unfold zI; rfl
 have V : zI m l l.length = zaq m l := by unfold zaq; rfl
 refine xV func282 ntmps282 (fun g w d => ?_);refine gc (zaL m l hl) ?_;refine gd ?_ ?_<;>intro Z
 ·apply ye;refine yy ?_;refine xU ?_;refine xQ (yd (ts := [(4, yc []), (5, iv (ckD m l))]) (hs := [])) ?_;refine yj ?_ ?_;all_goals (first | (rw [j3 Z]; done) | rfl | (rw [j4 Z, ← V]; rfl) | (rw [j4 Z, ← V]; done) | exact zE Z)
 apply yl;apply ye;refine yh ?_;iterate 2 apply yg
 refine xZ (yF intE 3 1 7 7 rfl rfl) ?_;apply yi;refine yh ?_;apply xS;refine zq (fun k => [(1, sgsA l), (2, .ptr 2 0 0 0), (7, .own 7), (8, iv (k : Int))]) (fun k => [(2, .box (mnE m) 23), (7, .row intE (zI m l k) 3 1)]) l.length (fun k H => ?_) (h0 := yd);refine gd ?_ ?_<;>intro I
 ·have N := zgX m l k;refine gc (zfy m l (by omega) (k : Int) (by omega) (by omega)) ?_;refine gd ?_ ?_<;>intro U
  ·have T := zeU (zmv U);refine gq ?_;refine yz intE [_] ?_;refine gq ?_;refine yw (k + 1)
  ·have T := zge (zoG U);refine gq ?_;refine yw (k + 1)
 ·have Q : k = l.length := by omega
  subst Q;apply k8;apply ye;refine yy ?_;refine xU ?_;refine xQ (xP (k := 7) rfl) ?_;refine yj ?_ ?_;all_goals (first | (rw [j3 Z]; done) | rfl | (rw [j4 Z, ← V]; rfl) | (rw [j4 Z, ← V]; done) | exact zE Z)
end
section
attribute [local irreducible] Pur yu yq Ex X Fn Imp LeV LeB FnO It yD
attribute [local irreducible] zaB zI zaq zam ckD
def prL (m : Mn) (l : List Sg) : List Int := if ckD m l = 0 then zaq m l else []
def twos (n : Nat) : List Int := List.replicate n 2
def zjK (n : Nat) : twos n ++ [2] = twos (n + 1) := by unfold twos; rw [List.replicate_succ']
def zcC (n : Nat) : (twos n).length = n := by unfold twos; simp
def zeV (m : Mn) (l : List Sg) : (prL m l).length <= l.length := by
 unfold prL; split
 ·exact zjJ m l
 ·simp
def zb6 (m : Mn) (l : List Sg) (hl : l.length <= 1000) : Fn prog 282 [mnA m, sgsA l] (.tup [yc (prL m l), iv (ckD m l)]) := zfd m l hl
attribute [local irreducible] prL twos
def zfM (m : Mn) (l : List Sg) (hl : l.length <= 1000) : Fn prog 238 [mnA m, sgsA l] (.tup [yc (twos (prL m l).length), iv (ckD m l)]) := by
 have U : [] = twos 0 := by unfold twos; rfl
 have T := zeV m l;refine xV func238 ntmps238 (fun g w d => ?_);refine gq ?_;refine yM (zb6 m l hl) ?_;iterate 5 refine ya ?_
 apply yE;refine yh ?_;iterate 2 apply yg
 refine xZ (yF intE 3 1 8 8 rfl rfl) ?_;apply yi;refine yh ?_;apply xS;refine zq (fun k => [(6, yc (prL m l)), (7, iv (ckD m l)), (8, .own 8), (9, iv (k : Int))]) (fun k => [(8, .row intE (twos k) 3 1)]) ((prL m l).length) (fun k J => ?_) (h0 := yd);refine gd ?_ ?_<;>intro Q
 ·have V := zcC k;have N := zjK k;refine gq ?_;refine yz intE [_] ?_;refine gq ?_;refine yw (k + 1)
 ·have Z : k = (prL m l).length := by omega
  subst Z;apply k8;apply ye;refine ya ?_;refine yy ?_;refine xU ?_;refine xQ (xP (k := 8) rfl) ?_;refine yj ?_ ?_;all_goals rfl
end
section
attribute [local irreducible] Pur yu yq Ex X Fn Imp LeV LeB FnO It yD
attribute [local irreducible] zaB zI zaq zam ckD
def zem (m : Mn) (l : List Sg) (hl : l.length <= 1000) : FnO prog 249 [mnA m, sgsA l] [] [] (.tup [.own 39, iv (ckD m l)]) [(39, .row intE (prL m l) 3 1)] := zjj m l hl
def ruK (p : List Int) (k : Nat) : List Int := twos k ++ p.drop k
def zrZ {p : List Int} {k : Nat} (h : k <= p.length) : (ruK p k).length = p.length := by unfold ruK; rw [jJ, zcC, uP]; omega
def zr0 {p : List Int} {k : Nat} (h : k < p.length) : (ruK p k).set k 2 = ruK p (k + 1) := by
 unfold ruK;rw [vF _ _ (by rw [zcC]; omega), zcC, Nat.sub_self, ← zjK, vG];congr 1;rw [jG h]; rfl
def zxI (p : List Int) : p = ruK p 0 := by unfold ruK twos; rfl
def zxJ (p : List Int) : ruK p p.length = twos p.length := by unfold ruK; rw [wS, wE]
def zmw {m : Mn} {l : List Sg} (h : ¬ ckD m l = 0) : prL m l = [] := by unfold prL; rw [j3 h]
attribute [local irreducible] prL twos ruK
def zkC (m : Mn) (l : List Sg) (hl : l.length <= 1000) : Fn prog 187 [mnA m, sgsA l] (.tup [yc (twos (prL m l).length), iv (ckD m l)]) := by
 have Q := zxI (prL m l);have V := zxJ (prL m l);have N := zeV m l;refine xV func187 ntmps187 (fun g w d => ?_);refine gq ?_;refine zV [(39, 39)] (zem m l hl) ?_;refine gd ?_ ?_<;>intro Z
 ·have ht : [] = twos (prL m l).length := by rw [zmw Z]; unfold twos; rfl
  apply ye;refine yy ?_;refine xU ?_;refine xQ (yd (ts := [(4, yc []), (5, iv (ckD m l))]) (hs := [])) ?_;refine yj ?_ ?_;all_goals (first | rfl | exact j5 yc ht | exact j5 yc V | exact j5 (AV.int .i64) Z.symm)
 apply yl;apply yg;apply ye;refine yy ?_;apply xS;refine zq (fun k => [(6, .own 39), (7, iv 0), (19, iv ((prL m l).length : Int)), (20, iv (k : Int))]) (fun k => [(39, .row intE (ruK (prL m l) k) 3 1)]) ((prL m l).length) (fun k H => ?_) (h0 := yd);refine gd ?_ ?_<;>intro J
 ·have T := zrZ (p := prL m l) (k := k) (by omega);have I := zr0 (p := prL m l) (k := k) (by omega);refine gq ?_;refine yw (k + 1)
 ·have U : k = (prL m l).length := by omega
  subst U;apply k8;apply ye;refine yy ?_;refine xU ?_;refine xQ (xP (k := 39) rfl) ?_;refine yj ?_ ?_;all_goals (first | rfl | exact j5 yc ht | exact j5 yc V | exact j5 (AV.int .i64) Z.symm)
end
section
attribute [local irreducible] Pur yu yq Ex X Fn Imp LeV LeB FnO It yD
attribute [local irreducible] zaB zI zaq zam ckD
attribute [local irreducible] prL
end
end Go.Rse
