/-
  All levels.
-/
import Derived.Test.YtbopkhoalndflaaGreatDoorVJLvl15
set_option linter.all false
namespace Go.Rse
open Go Go.Proofs Go.Proofs.Tryz
section
def lvN (m : Mn) (L : List Int) (l : List Ite) : Nat -> List Int × List Ite
 | 0 => ([], l)
 | n + 1 => ((lvN m L l n).1 ++ cuV m (L.getD n 0) (lvN m L l n).2, apV m (L.getD n 0) (lvN m L l n).2 (cuV m (L.getD n 0) (lvN m L l n).2))
structure LvJ (m : Mn) (L : List Int) (l : List Ite) (n : Nat) : Prop where
 le : n <= L.length
 go : lvF m L l [] = lvF m (L.drop n) (lvN m L l n).2 (lvN m L l n).1
 len : (lvN m L l n).2.length = l.length
 cho : (lvN m L l n).1.length <= n * (2 * l.length + 2)
def zt2 (m : Mn) (L : List Int) (l : List Ite) : LvJ m L l 0 := ⟨by omega, rfl, rfl, by simp [lvN]⟩
def zhM {m : Mn} {k : Int} {l : List Ite} : (cuV m k l).length <= 2 * l.length + 2 := by
 by_cases h : cuE m k l = 0
 ·obtain ⟨h0, Z⟩ := zt5 h;unfold cuO at Z;have := (zie Z).1;have := zaJ m k l;omega
 ·unfold cuV; rw [j3 h]; simp
def zkr {m : Mn} {k : Int} {l : List Ite} {M : List Int} (h : apE m k l M = 0) : (apV m k l M).length = l.length := by
 unfold apV; rw [j4 h]; exact zb2 _ _ _ _ _
def zks {m : Mn} {L : List Int} {l : List Ite} {n : Nat} {k : Int} (Z : L[n]? = some k) : (lvN m L l n).1 ++ cuV m k (lvN m L l n).2 = (lvN m L l (n + 1)).1 /\ apV m k (lvN m L l n).2 (cuV m k (lvN m L l n).2) = (lvN m L l (n + 1)).2 := by
 have e : L.getD n 0 = k := by rw [jA, Z]; rfl
 show _ = ((lvN m L l n).1 ++ cuV m (L.getD n 0) (lvN m L l n).2) /\ _ = apV m (L.getD n 0) (lvN m L l n).2 (cuV m (L.getD n 0) (lvN m L l n).2);rw [e]; exact ⟨rfl, rfl⟩
def LvJ.s {m : Mn} {L : List Int} {l : List Ite} {n : Nat} {k : Int} (h : LvJ m L l n) (Z : L[n]? = some k) (he : cuE m k (lvN m L l n).2 = 0) : LvJ m L l (n + 1) := by
 obtain ⟨e1, e2⟩ := zks (m := m) (l := l) Z;have V := (j1.1 Z).1;refine ⟨by omega, ?_, ?_, ?_⟩
 ·rw [h.go, zly Z, j4 he, e1, e2]
 ·rw [← e2, zkr (zlx he), h.len]
 ·rw [← e1, jJ, Nat.add_mul, Nat.one_mul];have := h.cho;have := zhM (m := m) (k := k) (l := (lvN m L l n).2);rw [h.len] at this;omega
section
variable {m : Mn} {l : List Ite} {n : Nat} {k : Int}
def zw2 (h : ¬ ckM m = 0) : leE m l = ckM m /\ leC m l = [] /\ leI m l = [] := by
 have : leE m l = ckM m := by unfold leE; rw [j3 h]
 refine ⟨this, ?_, ?_⟩
 ·unfold leC; rw [this, j3 h]
 ·unfold leI; rw [this, j3 h]
def zw3 (h : ckM m = 0) (Z : ¬ ckIE l = 0) : leE m l = ckIE l /\ leC m l = [] /\ leI m l = [] := by
 have : leE m l = ckIE l := by unfold leE; rw [j4 h, j3 Z]
 refine ⟨this, ?_, ?_⟩
 ·unfold leC; rw [this, j3 Z]
 ·unfold leI; rw [this, j3 Z]
def zw4 (h : ckM m = 0) (Z : ckIE l = 0) (hJ : LvJ m (perfL m) l n) (V : (perfL m)[n]? = some k) (he : ¬ cuE m k (lvN m (perfL m) l n).2 = 0) : leE m l = cuE m k (lvN m (perfL m) l n).2 /\ leC m l = [] /\ leI m l = [] := by
 have : leE m l = cuE m k (lvN m (perfL m) l n).2 := by unfold leE; rw [j4 h, j4 Z, hJ.go, zly V, j3 he]
 refine ⟨this, ?_, ?_⟩
 ·unfold leC; rw [this, j3 he]
 ·unfold leI; rw [this, j3 he]
def zw5 (h : ckM m = 0) (Z : ckIE l = 0) (hJ : LvJ m (perfL m) l n) (V : n = (perfL m).length) : leE m l = 0 /\ (lvN m (perfL m) l n).1 = leC m l /\ (lvN m (perfL m) l n).2 = leI m l := by
 have e : lvF m (perfL m) l [] = ((lvN m (perfL m) l n).1, (lvN m (perfL m) l n).2, 0) := by rw [hJ.go, V, wS]; rfl
 have : leE m l = 0 := by unfold leE; rw [j4 h, j4 Z, e]
 refine ⟨this, ?_, ?_⟩
 ·unfold leC; rw [this, j4 rfl, e]
 ·unfold leI; rw [this, j4 rfl, e]
def zkt (m : Mn) : (perfL m).length <= 4 := by
 unfold perfL; exact wM _ _
def zpm (Z : (perfL m)[n]? = some k) : 1 <= k /\ k <= 4 := by
 have h := j6 Z;rw [zg1] at h; exact ⟨h.1, h.2.1⟩
end
end
section
section
variable {m : Mn} {l : List Sg}
end
end
section
end
section
end
section
inductive ChG : List (List Int) -> List Int -> Prop
 | nil : ChG [] []
 | snoc {x : List Int} {R : List (List Int)} {r : List Int} {v : Int} (hv : v ∈ x) (h : ChG R r) : ChG (x :: R) (r ++ [v])
def zt3 {L : List (List Int)} {c : List Int} (hl : L.length = c.length) (h : ∀ (i : Nat) x v, L[i]? = some x -> c[i]? = some v -> v ∈ x) : ∀ k, k <= L.length -> ChG (L.take k).reverse (c.take k)
 | 0, _ => by simpa using ChG.nil
 | k + 1, Z => by
  have hx : L[k]? = some L[k] := lgg (by omega);have hv : c[k]? = some c[k] := lgg (by omega);rw [jE, jE, hx, hv];simp only [Option.toList_some, List.reverse_append, List.reverse_cons, List.reverse_nil, xF, wV];exact .snoc (h k _ _ hx hv) (zt3 hl h k (by omega))
theorem zu5 {R : List (List Int)} {r : List Int} (Z : ChG R r) : r.length = R.length /\ ∀ (i : Nat) x v, R.reverse[i]? = some x -> r[i]? = some v -> v ∈ x := by
 induction Z <;> grind
def zw6 {L : List (List Int)} {r : List Int} (Z : ChG L.reverse r) : L.length = r.length /\ chOk r L := by
 grind [zu5, List.reverse_reverse, zed]
def zpn (x : List Int) (c : Int) : Prop := (∃ a, x = [a] /\ c = a) \/ (∃ a b, x = [a, b] /\ a < b /\ (c = a \/ c = b))
theorem zls {m : Mn} {l : List Sg} {i : Int} {p : Sg} (V : ckM m = 0) (Z : 1 <= p.Value) : zpn (mngR m p) (za9 m l i p) := by
 have U := zmh (m := m) Z;unfold za9 mngR
 grind [ownV, zpn]
def zu6 {m : Mn} {l : List Sg} (T : ckM m = 0) (Z : ckD m l = 0) {k : Nat} {x : List Int} {c : Int} (hx : (mnsD m l)[k]? = some x) (U : (zm m l)[k]? = some c) : zpn x c := by
 rw [mnsD, jK] at hx;rw [zm, jK] at U;cases V : (yU l l.length)[k]? with
 | none => simp [V] at hx
 | some i =>
  simp [V] at hx U;obtain ⟨j, s, p, Q, N, J, I, H⟩ := zkh Z (j6 V)
  grind [zkg, mnAt, zdg, mngs, zll, zls]
def zic (m : Mn) (l : List Sg) : (zm m l).length = (mnsD m l).length := by
 unfold zm mnsD; simp
def zrt {m : Mn} {l : List Sg} (V : ckM m = 0) (U : ckD m l = 0) : ChG (mnsD m l).reverse (zm m l) := by
 have Z := zic m l
 have h := zt3 (L := mnsD m l) (c := zm m l) Z.symm (fun i x v hx hv => by
  rcases zu6 V U hx hv with ⟨a, rfl, rfl⟩ | ⟨a, b, rfl, T, rfl | rfl⟩ <;> simp) (mnsD m l).length (jC _)
 grind
end
section
end
section
attribute [local irreducible] Pur yu yq Ex X Fn Imp LeV LeB FnO It yD
def zjC {α : Type} {a b : List α} {k : Nat} {x : α} (Z : a[k]? = some x) (V : b[k]? = some x) (h : a.take k = b.take k) : a.take (k + 1) = b.take (k + 1) := by
 rw [jE, jE, Z, V, h]
def zm5 {α : Type} {a b : List α} {k : Nat} (hl : a.length = b.length) (Z : a.length <= k) (h : a.take k = b.take k) : a = b := by
 rwa [jY Z, jY (by omega)] at h
def zt4 {α : Type} {a b : List α} {k : Nat} {x y : α} (V : a[k]? = some x) (Z : b[k]? = some y) (h : x ≠ y) : a ≠ b := fun e => by
 subst e; rw [V] at Z; injection Z with Z; exact h Z
def zpo : Sg := ⟨3, 0, 0, 0, false, 0, false, false, ⟨0, 0, 0, 0⟩, false, 0, 0, 0, 0⟩
def zpp {a n : Int} (Z : 0 < n) : (a.tmod n < 0 -> a.tmod n + n = a % n) /\ (¬ a.tmod n < 0 -> a.tmod n = a % n) /\ -n < a.tmod n /\ a.tmod n < n := by
 rw [Int.tmod_eq_emod];have h0 := uL a (show n ≠ 0 by omega);have V := wZ a Z;split <;> omega
def mMk (n : Int) : Mn := ⟨2 + n % 16 / 8, 2 + n % 16 / 4 % 2, 2 + n % 16 / 2 % 2, 2 + n % 16 % 2⟩
def zu7 (n : Int) : ckM (mMk n) = 0 := by
 unfold ckM;rw [j4];unfold Mn.Ok two3 mMk;exact ⟨by show 2 + n % 16 / 8 = 2 \/ 2 + n % 16 / 8 = 3; omega, by show 2 + n % 16 / 4 % 2 = 2 \/ 2 + n % 16 / 4 % 2 = 3; omega, by show 2 + n % 16 / 2 % 2 = 2 \/ 2 + n % 16 / 2 % 2 = 3; omega, by show 2 + n % 16 % 2 = 2 \/ 2 + n % 16 % 2 = 3; omega⟩
def zru {l : List Int} {x : Int} (h : ∀ (i : Nat) u, i < l.length -> l[i]? = some u -> ¬ u = x) : ¬ x ∈ l := fun hx => by
 obtain ⟨i, hi⟩ := jP.1 hx;exact h i x (j1.1 hi).1 hi rfl
attribute [local irreducible] gI mMk
def zd3 (a b : List Tm) (hl : a.length <= 4000000000) : Fn prog 31 [tmsA a, tmsA b] (.bool (decide (a = b))) := by
 refine xV func31 ntmps31 (fun g w d => ?_);refine gd ?_ ?_<;>intro T
 ·refine gq ?_;all_goals (congr 1; exact (j9 fun e => by subst e; omega).symm)
 apply yl;apply yg;apply ye;refine yh ?_;apply xS;refine zX (fun k => [(0, tmsA a), (1, tmsA b), (5, iv (k : Int))]) (fun k => []) (fun k => k <= a.length /\ a.take k = b.take k) a.length (fun k Q => ?_) (hJ := by exact ⟨by omega, rfl⟩) (h0 := yd);obtain ⟨N, V⟩ := Q;refine gd ?_ ?_<;>intro J
 ·obtain ⟨x, hx⟩ : ∃ x, a[k]? = some x := ⟨_, lgg (by omega)⟩;have I : a[(k : Int).toNat]? = some x := by simpa using hx
  obtain ⟨y, U⟩ : ∃ y, b[k]? = some y := ⟨_, lgg (by omega)⟩;have H : b[(k : Int).toNat]? = some y := by simpa using U
  refine gq ?_;refine yW [17,18,19,20,21,22,23,24,25] [0,0,3,7,0,0,48,112,255] mo ?_;iterate 9 refine yb ?_
  refine yA ?_;refine gd ?_ ?_<;>intro Z
  ·refine gq ?_;all_goals (congr 1; exact (j9 (zt4 hx U (by simpa using Z))).symm)
  refine gq ?_;refine yw (k + 1) (hJ := by exact ⟨by omega, zjC hx (by rw [U]; congr 1; first | exact (by simpa using Z : x = y).symm | (simp at Z; exact Z.symm)) V⟩)
 ·refine gq ?_;all_goals (congr 1; exact (jI (zm5 (by omega) (by omega) V)).symm)
def zw (a b : List Sg) (hl : a.length <= 4000000000) : Fn prog 23 [sgsA a, sgsA b] (.bool (decide (a = b))) := by
 refine xV func23 ntmps23 (fun g w d => ?_);refine gd ?_ ?_<;>intro T
 ·refine gq ?_;all_goals (congr 1; exact (j9 fun e => by subst e; omega).symm)
 apply yl;apply yg;apply ye;refine yh ?_;apply xS;refine zX (fun k => [(0, sgsA a), (1, sgsA b), (5, iv (k : Int))]) (fun k => []) (fun k => k <= a.length /\ a.take k = b.take k) a.length (fun k Q => ?_) (hJ := by exact ⟨by omega, rfl⟩) (h0 := yd);obtain ⟨N, V⟩ := Q;refine gd ?_ ?_<;>intro J
 ·obtain ⟨x, hx⟩ : ∃ x, a[k]? = some x := ⟨_, lgg (by omega)⟩;have I : a[(k : Int).toNat]? = some x := by simpa using hx
  obtain ⟨y, U⟩ : ∃ y, b[k]? = some y := ⟨_, lgg (by omega)⟩;have H : b[(k : Int).toNat]? = some y := by simpa using U
  refine gq ?_;refine yW [17,18,19,20,21,22,23,24,25] [0,0,3,7,0,0,48,112,255] mo ?_;iterate 9 refine yb ?_
  refine yA ?_;refine gd ?_ ?_<;>intro Z
  ·refine gq ?_;all_goals (congr 1; exact (j9 (zt4 hx U (by simpa using Z))).symm)
  refine gq ?_;refine yw (k + 1) (hJ := by exact ⟨by omega, zjC hx (by rw [U]; congr 1; first | exact (by simpa using Z : x = y).symm | (simp at Z; exact Z.symm)) V⟩)
 ·refine gq ?_;all_goals (congr 1; exact (jI (zm5 (by omega) (by omega) V)).symm)
def zei (l : List Sg) (hl : l.length <= 4000) : Fn prog 17 [sgsA l] (sgsA l) := by
 refine xV func17 ntmps17 (fun g w d => ?_);refine gq ?_;refine yz sgE [] ?_;refine ya ?_;refine xY ?_;refine yh ?_;refine xU ?_;refine xQ (xP (k := 3) rfl) ?_;refine gq ?_;all_goals (first | rfl | (simp; rfl))
def zcb (a n : Int) (J : -9223372036854775808 <= a /\ a <= 9223372036854775807) (I : 1 <= n /\ n <= 4611686018427387904) : Fn prog 90 [iv a, iv n] (iv (a % n)) := by
 obtain ⟨Z, V, U, T⟩ := zpp (a := a) (n := n) (by omega);refine xV func90 ntmps90 (fun g w d => ?_);refine gd ?_ ?_<;>intro Q
 ·omega
 apply yl;apply ye;iterate 2 refine ya ?_
 refine zY (zut rfl rfl (by omega)) rfl ?_;refine gd ?_ ?_<;>intro N
 ·refine gq ?_;all_goals (congr 1; exact Z (by omega))
 ·refine gq ?_;all_goals (congr 1; exact V (by omega))
def zgU (n : Int) (Z : -9223372036854775808 <= n /\ n <= 9223372036854775807) : Fn prog 27 [iv n] (mnA (mMk n)) := by
 unfold mMk;refine xV func27 ntmps27 (fun g w d => ?_);refine gc (zcb n 16 Z (by omega)) ?_;refine k7 (.one (.cellA rfl rfl rfl rfl ty23 (xR ?_)));all_goals exact zR
def zf7 (m : Mn) (v : Int) : Fn prog 181 [mnA m, iv v] (iv (m.p v)) := by
 refine xV func181 ntmps181 (fun g w d => ?_);refine gd ?_ ?_<;>intro Z
 ·refine gq ?_;all_goals (congr 1; unfold Mn.p; simp [*])
 refine gd ?_ ?_<;>intro V
 ·refine gq ?_;all_goals (congr 1; unfold Mn.p; simp [*])
 refine gd ?_ ?_<;>intro U
 ·refine gq ?_;all_goals (congr 1; unfold Mn.p; simp [*])
 refine gd ?_ ?_<;>intro T
 ·refine gq ?_;all_goals (congr 1; unfold Mn.p; simp [*])
 refine gq ?_;all_goals (congr 1; unfold Mn.p; simp [*])
def zfj (n q : Int) (N : 0 <= n /\ n <= 4611686018427387904) (J : 1 <= q /\ q <= 4611686018427387904) : Fn prog 88 [iv n, iv q] (tmA ⟨n / gI n q, q / gI n q⟩) := by
 refine xV func88 ntmps88 (fun g w d => ?_);refine gq ?_;refine zdW (ι := Int × Int) (fun (p : Int × Int) => [(0, iv n), (1, iv q), (4, .ptr 4 0 0 0), (5, iv p.1), (6, iv p.2)]) (fun (p : Int × Int) => [(4, .box [iv 0, iv 0] 83)]) (fun (p : Int × Int) => 0 <= p.1 /\ 0 <= p.2 /\ gI p.1 p.2 = gI n q /\ (0 < p.1 \/ 0 < p.2)) (fun (p : Int × Int) => p.2.toNat) (n, q) (fun p V => ?_) (hJ := by exact ⟨by dsimp only; omega, by dsimp only; omega, rfl, by dsimp only; omega⟩);obtain ⟨a, b⟩ := p;obtain ⟨k1, k2, k3, k4⟩ := V;dsimp only at *
 refine gd ?_ ?_<;>intro U
 ·refine gq ?_;refine yw ((b, a % b)) (hJ := by exact ⟨by dsimp only; omega, by dsimp only; exact uL _ (by omega), by dsimp only; rw [zkR (by omega) (by omega)]; exact k3, by dsimp only; omega⟩) (hm := by dsimp only; have := wZ a (show 0 < b by omega); omega)
 ·have Z : b = 0 := by omega
  subst Z;rw [zkQ k1] at k3;subst k3;have T := zcM (n := n) (d := q) (by omega);refine gd ?_ ?_<;>intro Q
  ·omega
  refine gq ?_;refine yW [20,21,22,23,24,25] [0,0,3,0,0,24,63,127] mo ?_;iterate 6 refine yb ?_
  refine yA ?_;refine gq ?_;refine k7 (.one (.cellA rfl rfl rfl rfl ty83 (xR ?_)));all_goals rfl
end
section
def abvK (m : Mn) (v : Int) : Bool := (decide (1 < v) && decide (m.p 1 = 3)) || (decide (2 < v) && decide (m.p 2 = 3)) || (decide (3 < v) && decide (m.p 3 = 3)) || (decide (4 < v) && decide (m.p 4 = 3))
def zpq {m : Mn} {v k : Int} (Z : 1 <= k) (V : k < v) (U : m.p k = 3) : abvK m v = true := by
 grind [zpR, abvK]
def zrv {m : Mn} {v : Int} (h : ∀ k, 1 <= k -> k < v -> ¬ m.p k = 3) : abvK m v = false := by
 simp_all [abvK]
end
section
def stp (p n : Int) : Int := if p + n % 5 - 2 < -4 \/ 12 < p + n % 5 - 2 then 4 else p + n % 5 - 2
def zrw {p n : Int} (h : p + n % 5 - 2 < -4 \/ 12 < p + n % 5 - 2) : 4 = stp p n := by unfold stp; rw [j4 h]
def zu8 {p n : Int} (h : ¬ (p + n % 5 - 2 < -4 \/ 12 < p + n % 5 - 2)) : p + n % 5 - 2 = stp p n := by unfold stp; rw [j3 h]
def zAv (p n : Int) : -4 <= stp p n /\ stp p n <= 12 := by
 grind [stp]
def roA (n : Int) : Int := ([0, 0, 0, 0, -1, 1, 2] : List Int).getD (n / 5 % 7).toNat 0
def zrx (n : Int) : ([0, 0, 0, 0, -1, 1, 2] : List Int)[(n / 5 % 7).toNat]? = some (roA n) := by
 grind [roA]
def rsS (v : Int) : Sg := ⟨2, v, 0, 0, false, 0, false, false, ⟨0, 0, 0, 0⟩, false, 0, 0, 0, 0⟩
def ntS (v p n : Int) : Sg := ⟨1, v, p, roA n, decide (n / 35 % 6 = 0), 0, false, false, ⟨0, 0, 0, 0⟩, false, 0, 0, 0, 0⟩
structure Mk where
 l : List Sg
 p : Int
 d : Bool
def roS (m : Mn) (s : Mk) (x : Int) : Mk :=
 if x % 8 = 0 then ⟨s.l ++ [rsS (2 + x / 8 % 6)], s.p, abvK m (2 + x / 8 % 6)⟩
 else if x % 8 < 3 /\ s.d = true then ⟨s.l ++ [zpo], s.p, false⟩
 else ⟨s.l ++ [ntS (2 + x / 8 % 6) (stp s.p (x / 48)) (x / 48)], stp s.p (x / 48), true⟩
def roK (m : Mn) (nums : List Int) (most : Int) : Nat -> Mk
 | 0 => ⟨[], 4, false⟩
 | k + 1 => match nums[k]? with
  | some x => if ((roK m nums most k).l.length : Int) < most then roS m (roK m nums most k) (x % 1048576) else roK m nums most k
  | none => roK m nums most k
def roL (m : Mn) (nums : List Int) (most : Int) : List Sg := (roK m nums most nums.length).l
def zpr {m : Mn} {nums : List Int} {most : Int} {k : Nat} {x : Int} (hx : nums[k]? = some x) (h : ((roK m nums most k).l.length : Int) < most) : roK m nums most (k + 1) = roS m (roK m nums most k) (x % 1048576) := by
 simp_all [roK]
def zlt {m : Mn} {nums : List Int} {most : Int} {k : Nat} (h : most <= ((roK m nums most k).l.length : Int)) : ∀ d, roK m nums most (k + d) = roK m nums most k
 | 0 => rfl
 | d + 1 => by
  show roK m nums most ((k + d) + 1) = _;have ih := zlt h d
  grind [roK]
def zu9 {m : Mn} {nums : List Int} {most : Int} {k : Nat} (U : k <= nums.length) (h : ¬ ((k : Int) < nums.length /\ ((roK m nums most k).l.length : Int) < most)) : (roK m nums most k).l = roL m nums most := by
 unfold roL;by_cases V : (k : Int) < nums.length
 ·have : most <= ((roK m nums most k).l.length : Int) := by
   rcases Int.lt_or_le ((roK m nums most k).l.length : Int) most with Z | Z
   ·exact absurd ⟨V, Z⟩ h
   ·exact Z
  rw [show nums.length = k + (nums.length - k) by omega, zlt this]
 grind
theorem zry (m : Mn) (s : Mk) (x : Int) : (roS m s x).l.length = s.l.length + 1 := by
 grind [roS]
def zku (m : Mn) (nums : List Int) {most : Int} (h0 : 0 <= most) : ∀ k, ((roK m nums most k).l.length : Int) <= most
 | 0 => h0
 | k + 1 => by
  have := zku m nums h0 k
  grind [roK, zry]
def zoz {m : Mn} {s : Mk} (x : Int) (h : -4 <= s.p /\ s.p <= 12) : -4 <= (roS m s x).p /\ (roS m s x).p <= 12 := by
 unfold roS;split
 ·exact h
 grind [stp]
def zjD (m : Mn) (nums : List Int) (most : Int) : ∀ k, -4 <= (roK m nums most k).p /\ (roK m nums most k).p <= 12
 | 0 => by simp [roK]
 | k + 1 => by
  have ih := zjD m nums most k;unfold roK;split
  ·split
   ·exact zoz _ ih
   ·exact ih
  ·exact ih
def zps {m : Mn} {s : Mk} {x : Int} (h : x % 8 = 0) : roS m s x = ⟨s.l ++ [rsS (2 + x / 8 % 6)], s.p, abvK m (2 + x / 8 % 6)⟩ := by unfold roS; rw [j4 h]
def zrz {m : Mn} {s : Mk} {x : Int} (h : ¬ x % 8 = 0) (Z : x % 8 < 3 /\ s.d = true) : roS m s x = ⟨s.l ++ [zpo], s.p, false⟩ := by simp_all [roS]
def zpt {m : Mn} {s : Mk} {x : Int} (h : ¬ x % 8 = 0) (Z : ¬ (x % 8 < 3 /\ s.d = true)) : roS m s x = ⟨s.l ++ [ntS (2 + x / 8 % 6) (stp s.p (x / 48)) (x / 48)], stp s.p (x / 48), true⟩ := by simp_all [roS]
end
section
def zrA {m : Mn} {l : List Sg} (V : ckM m = 0) (Z : ckD m l = 0) : mkE m l (zm m l) = 0 := by
 unfold mkE; rw [j4 Z, j4 (zw6 (zrt V Z))]
def zrB {m : Mn} {l : List Sg} (Z : ckD m l = 0) : duE m l (twos (prL m l).length) = 0 := by
 unfold duE;rw [j4 Z, j4 ⟨zcC _, by unfold mnOk twos; rw [jB]; intro x hx; rw [(List.mem_replicate.1 hx).2]; rfl⟩]
end
section
attribute [local irreducible] Pur yu yq Ex X Fn Imp LeV LeB FnO It yD
attribute [local irreducible] mkC mkA mkE duV duE itK itOf ckD mulV mulE
set_option maxHeartbeats 4000000 in
def zkv (m : Mn) (l : List Sg) (ch mi : List Int) (hl : l.length <= 1000) (x0 : mi.length <= 1000) : Fn prog 138 [mnA m, sgsA l, yc ch, yc mi] (.tup [itsA (itmV m l ch mi), iv (itmE m l ch mi)]) := by
 refine xV func138 ntmps138 (fun g w d => ?_);refine gc (zb8 m l hl) ?_;refine gd ?_ ?_<;>intro J
 ·have hE : itmE m l ch mi = ckD m l := by rw [zmm (by rw [zml J]; exact J), zml J]
  have H : itmV m l ch mi = [] := zh9 (by rw [hE]; exact J);apply ye;refine yy ?_;refine xU ?_;refine xQ (yd (ts := [(8, itsA []), (9, iv (ckD m l))]) (hs := [])) ?_;refine yj ?_ ?_;all_goals (first | exact zE H | exact zE hE)
 refine gc (zlh m l hl ch) ?_;refine gd ?_ ?_<;>intro U
 ·have hE : itmE m l ch mi = mkE m l ch := zmm U;have H : itmV m l ch mi = [] := zh9 (by rw [hE]; exact U);apply ye;refine yy ?_;refine xU ?_;refine xQ (yd (ts := [(8, itsA []), (9, iv (mkE m l ch))]) (hs := [])) ?_;refine yj ?_ ?_;all_goals (first | exact zE H | exact zE hE)
 refine gc (zkl m l mi hl x0) ?_;refine gd ?_ ?_<;>intro G
 ·have hE : itmE m l ch mi = duE m l mi := zkn U;have H : itmV m l ch mi = [] := zh9 (by rw [hE]; exact G);apply ye;refine yy ?_;refine xU ?_;refine xQ (yd (ts := [(8, itsA []), (9, iv (duE m l mi))]) (hs := [])) ?_;refine yj ?_ ?_;all_goals (first | exact zE H | exact zE hE)
 have hE : itmE m l ch mi = 0 := (zkn U).trans G;have H := zmn hE;apply yl;apply ye;refine yh ?_;iterate 2 apply yg
 refine xZ (yF itE 183 12 15 201 rfl rfl) ?_;apply yi;refine yy ?_;apply xS;have v4 := ztU l (mkC m l ch) (mkA m l ch) (duV m l mi);refine zq (fun k => [(11, yc (mkC m l ch)), (12, zaQ (mkA m l ch)), (14, tmsA (duV m l mi)), (15, .own 201), (47, sgsA l), (48, iv l.length), (49, iv (k : Int))]) (fun k => [(201, .row itE (itK l (mkC m l ch) (mkA m l ch) (duV m l mi) k) 183 12)]) l.length (fun k hk => ?_) (h0 := yd);refine gd ?_ ?_<;>intro v3
 ·obtain ⟨s, hs⟩ : ∃ s, l[k]? = some s := ⟨_, lgg (by omega)⟩;have v0 : l[(k : Int).toNat]? = some s := by simpa using hs
  have E := zh8 l (mkC m l ch) (mkA m l ch) (duV m l mi) k;have u3 := zkm l k;refine gd ?_ ?_<;>intro xT
  ·have V := zm2 (c := mkC m l ch) (a := mkA m l ch) (d := duV m l mi) hs xT;refine gq ?_;refine yw (k + 1)
  obtain ⟨x, y, z, hx, hy, hz, x3, u2, hm, v1, v8⟩ := ztW U G hs xT;have V := zpa hs xT hx hy hz;have u1 : (mkC m l ch)[((itK l (mkC m l ch) (mkA m l ch) (duV m l mi) k).length : Int).toNat]? = some x := by rw [E]; simpa using hx
  have kZ : (mkA m l ch)[((itK l (mkC m l ch) (mkA m l ch) (duV m l mi) k).length : Int).toNat]? = some y := by rw [E]; simpa using hy
  have kY : (duV m l mi)[((itK l (mkC m l ch) (mkA m l ch) (duV m l mi) k).length : Int).toNat]? = some z := by rw [E]; simpa using hz
  apply yl;apply ye;refine yy ?_;refine zb0 ⟨[(11, yc (mkC m l ch)), (12, zaQ (mkA m l ch)), (14, tmsA (duV m l mi)), (15, .own 201), (18, iv ((itK l (mkC m l ch) (mkA m l ch) (duV m l mi) k).length : Int)), (19, .ptr 19 0 0 0), (47, sgsA l), (48, iv l.length), (49, iv (k : Int))], [(201, .row itE (itK l (mkC m l ch) (mkA m l ch) (duV m l mi) k) 183 12), (19, .box [iv k, iv s.Value, .bool (decide (s.Kind = 2)), .bool (decide (s.Kind = 1) && s.Color), .bool false, iv x, iv z.N, iv z.D, iv 0, iv 0, iv 0, iv 0] 183)]⟩ (fun x2 => ?_) ?_
  ·refine yW [19,59,60,61,62,63,64,65,66,67,68,69,70,71,72,73,74,75,76,77,78,79,80] [0,0,2,0,8,24,0,64,192,448,960,1984,4032,0,0,24576,57344,0,0,393216,917504,2097151,0,8388607] mo ?_;(iterate 10 refine yb ?_);(iterate 2 refine k6 ?_);(iterate 10 refine yb ?_);refine ChM.step rfl rfl rfl (zu (k := 19) zgQ) rfl ?_;refine yA ?_;refine xY ?_;apply k9;exact xZ yk x2
  refine zb0 ⟨[(11, yc (mkC m l ch)), (12, zaQ (mkA m l ch)), (14, tmsA (duV m l mi)), (15, .own 201), (18, iv ((itK l (mkC m l ch) (mkA m l ch) (duV m l mi) k).length : Int)), (19, .ptr 19 0 0 0), (47, sgsA l), (48, iv l.length), (49, iv (k : Int))], [(201, .row itE (itK l (mkC m l ch) (mkA m l ch) (duV m l mi) k) 183 12), (19, .box [iv k, iv s.Value, .bool (decide (s.Kind = 2)), .bool (decide (s.Kind = 1) && s.Color), .bool false, iv x, iv z.N, iv z.D, iv 0, iv 1, iv 0, iv 1] 183)]⟩ (fun x1 => ?_) ?_
  ·apply yi;(iterate 3 refine ya ?_);refine xY ?_;refine ya ?_;refine xY ?_;apply k9;exact xZ yk x1
  refine gd ?_ ?_<;>intro T
  ·rw [← zwW T] at V;refine gc (zdS z ⟨3, 2⟩) ?_;refine gd ?_ ?_<;>intro w2
   ·exact absurd x3 w2
   refine gq ?_;refine yz itE [itL k s true x (mulV z ⟨3, 2⟩)] ?_;refine gq ?_;refine yw (k + 1)
  refine gd ?_ ?_<;>intro x4
  ·refine gd ?_ ?_<;>intro v9
   ·rw [← zpd T (.inl x4)] at V;refine gq ?_;refine yz itE [itL k s true x z] ?_;refine gq ?_;refine yw (k + 1)
   exact absurd x4 v9
  ·refine gd ?_ ?_<;>intro Q
   ·refine gd ?_ ?_<;>intro Z
    ·rw [← zpd T (.inr (.inl (by unfold clr; rw [jI Z.1, Z.2]; rfl)))] at V;refine gq ?_;refine yz itE [itL k s true x z] ?_;refine gq ?_;refine yw (k + 1)
    exact absurd Z (fun Z => Z.elim (fun h => h Q.1) (fun h => by rw [Q.2] at h; cases h))
   ·refine gd ?_ ?_<;>intro I
    ·rw [← zpd T (.inr (.inr I))] at V;refine gq ?_;refine yz itE [itL k s true x z] ?_;refine gq ?_;refine yw (k + 1)
    rw [← zwX T x4 (by unfold clr; rcases Q with h | h <;> simp [h]) I] at V;refine gq ?_;refine yz itE [itL k s false x z] ?_;refine gq ?_;refine yw (k + 1)
 ·have v5 : k = l.length := by omega
  subst v5;apply k8;apply ye;refine yy ?_;refine xU ?_;refine xQ (xP (k := 201) rfl) ?_;refine yj ?_ ?_;all_goals (first | exact zE H | exact zE hE)
end
end Go.Rse
