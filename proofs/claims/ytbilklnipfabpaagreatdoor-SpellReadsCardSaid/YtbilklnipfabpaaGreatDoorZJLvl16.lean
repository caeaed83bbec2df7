/-
  Allowed and Apply: one contract for all inputs.
-/
import Derived.Test.YtbilklnipfabpaaGreatDoorZJLvl12
import Derived.Test.YtbilklnipfabpaaGreatDoorZJLvl4
import Derived.Test.YtbilklnipfabpaaGreatDoorZJIte0
import Derived.Test.YtbilklnipfabpaaGreatDoorZJColor8
set_option linter.unusedSimpArgs false
set_option linter.unusedVariables false
namespace Go.Rse
open Go Go.Proofs
attribute [local irreducible] Pur yD yE Ex X Fn Imp LeV LeB FnO It yH FnW FnOW
theorem zoK (n d : Int) : 0 <= (tmkT n d).N := by
 unfold tmkT;split
 ·rename_i h;unfold tmkE at h;split at h
  ·cases h
  ·refine Int.ediv_nonneg (by omega) ?_;unfold gI; omega
 ·exact Int.le_refl _
theorem zrg (u : Tm) (l : List Ite) (s : Sgm) : 0 <= (cnV u l s).N := by
 unfold cnV;split
 ·unfold divV;split
  ·split
   ·exact Int.le_refl _
   ·unfold tmsV;split
    ·exact Int.le_refl _
    ·exact zoK _ _
  ·exact Int.le_refl _
 ·exact Int.le_refl _
theorem zic (m : Mn) (k : Int) (l : List Ite) : ∀ s ∈ segV m k l, 0 <= s.Count.N := by
 unfold segV;split
 ·intro s hs;obtain ⟨t, ht, rfl⟩ := List.mem_map.1 hs;exact zrg _ _ _
 ·intro s hs; cases hs
section
variable {m : Mn} {k : Int} {l : List Ite} {M : List Int}
theorem zuz (h : ¬ segE m k l = 0) : alE m k l M = segE m k l /\ alV m k l M = [] := by
 have : alE m k l M = segE m k l := by unfold alE; rw [if_neg h]
 refine ⟨this, ?_⟩; unfold alV; rw [this, if_neg h]
theorem zsP (h : segE m k l = 0) (h2 : (segV m k l).length <= M.length \/ okJ (unT m k) k (segV m k l) l M M.length = false) : alE m k l M = 2 /\ alV m k l M = [] := by
 have : alE m k l M = 2 := by unfold alE; rw [if_pos h, if_pos h2]
 refine ⟨this, ?_⟩; unfold alV; rw [this, if_neg (by decide)]
theorem zuA (h : segE m k l = 0) (h2 : ¬ ((segV m k l).length <= M.length \/ okJ (unT m k) k (segV m k l) l M M.length = false)) : alE m k l M = 0 /\ alV m k l M = alK (unT m k) k (segV m k l) l M M.length := by
 have : alE m k l M = 0 := by unfold alE; rw [if_pos h, if_neg h2]
 refine ⟨this, ?_⟩; unfold alV; rw [if_pos this]
theorem zuB (h : ¬ segE m k l = 0) : apE m k l M = segE m k l /\ apV m k l M = [] := by
 have : apE m k l M = segE m k l := by unfold apE; rw [if_neg h]
 refine ⟨this, ?_⟩; unfold apV; rw [this, if_neg h]
theorem zsQ (h : segE m k l = 0) (h2 : ¬ (segV m k l).length = M.length \/ okJ (unT m k) k (segV m k l) l M M.length = false) : apE m k l M = 2 /\ apV m k l M = [] := by
 have : apE m k l M = 2 := by unfold apE; rw [if_pos h, if_pos h2]
 refine ⟨this, ?_⟩; unfold apV; rw [this, if_neg (by decide)]
theorem zuC (h : segE m k l = 0) (h2 : ¬ (¬ (segV m k l).length = M.length \/ okJ (unT m k) k (segV m k l) l M M.length = false)) : apE m k l M = 0 /\ apV m k l M = (stK (unT m k) (segV m k l) l M M.length).1 := by
 have : apE m k l M = 0 := by unfold apE; rw [if_pos h, if_neg h2]
 refine ⟨this, ?_⟩; unfold apV; rw [if_pos this]
end
theorem zfs (m : Mn) (k : Int) (l : List Ite) (M : List Int) (h0 : -9223372036854775808 <= k) (h1 : k <= 9223372036854775807) (hl : l.length <= 1000000) (hM : M.length <= 4000000) : Fn Tryz.prog 162 [mnA m, iv k, itsA l, yh M] (.tup [yh (alV m k l M), iv (alE m k l M)]) := by
 by_cases hE : segE m k l = 0
 ·by_cases hX : (segV m k l).length <= M.length
  ·obtain ⟨e1, e2⟩ := zsP hE (.inl hX); rw [e1, e2];exact zec m k l M h0 h1 hl hM hE (by simpa using hX)
  ·by_cases hO : okJ (unT m k) k (segV m k l) l M M.length = false
   ·obtain ⟨e1, e2⟩ := zsP hE (.inr hO); rw [e1, e2];exact zed m k l M h0 h1 hl hM hE (by simp; omega) (hok := hO) (hN := zic m k l) (hMS := by omega)
   ·obtain ⟨e1, e2⟩ := zuA hE (fun h => h.elim hX hO); rw [e1, e2];exact zee m k l M h0 h1 hl hM hE (by simp; omega) (hok := by simpa using hO) (hN := zic m k l) (hMS := by omega)
 ·obtain ⟨e1, e2⟩ := zuz (M := M) hE; rw [e1, e2];exact zeb m k l M h0 h1 hl hM hE
theorem zg3 (m : Mn) (k : Int) (l : List Ite) (M : List Int) (h0 : -9223372036854775808 <= k) (h1 : k <= 9223372036854775807) (hl : l.length <= 1000000) (hM : M.length <= 4000000) : Fn Tryz.prog 48 [mnA m, iv k, itsA l, yh M] (.tup [itsA (apV m k l M), iv (apE m k l M)]) := by
 by_cases hE : segE m k l = 0
 ·by_cases hX : (segV m k l).length = M.length
  ·by_cases hO : okJ (unT m k) k (segV m k l) l M M.length = false
   ·obtain ⟨e1, e2⟩ := zsQ hE (.inr hO); rw [e1, e2];exact zfq m k l M h0 h1 hl hM hE (by simp; omega) (hok := hO) (hN := zic m k l) (hMS := by omega)
   ·obtain ⟨e1, e2⟩ := zuC hE (fun h => h.elim (fun g => g hX) hO); rw [e1, e2];exact zfr m k l M h0 h1 hl hM hE (by simp; omega) (hok := by simpa using hO) (hN := zic m k l) (hMS := by omega)
  ·obtain ⟨e1, e2⟩ := zsQ hE (.inl hX); rw [e1, e2];exact zfp m k l M h0 h1 hl hM hE (by simp; omega)
 ·obtain ⟨e1, e2⟩ := zuB (M := M) hE; rw [e1, e2];exact zfo m k l M h0 h1 hl hM hE
end Go.Rse
namespace Go.Rse
open Go Go.Proofs
section
variable {u : Tm} {k : Int} {S : List Sgm} {l : List Ite}
theorem zkK (M M2 : List Int) : ∀ n, n <= M.length -> stK u S l (M ++ M2) n = stK u S l M n
 | 0, _ => rfl
 | n + 1, h => by
  rw [zhn, zhn, zkK M M2 n (by omega)]
  have : (M ++ M2).getD n 0 = M.getD n 0 := by
   rw [List.getD_eq_getElem?_getD, List.getD_eq_getElem?_getD, List.getElem?_append_left (by omega)]
  rw [this]
theorem zid (M M2 : List Int) {n : Nat} (h : n <= M.length) : alK u k S l (M ++ M2) n = alK u k S l M n := by
 unfold alK; rw [zkK M M2 n h]
theorem zie (M M2 : List Int) : ∀ n, n <= M.length -> okJ u k S l (M ++ M2) n = okJ u k S l M n
 | 0, _ => rfl
 | n + 1, h => by
  show (okJ u k S l (M ++ M2) n && decide ((M ++ M2).getD n 0 ∈ alK u k S l (M ++ M2) n)) = (okJ u k S l M n && decide (M.getD n 0 ∈ alK u k S l M n));rw [zie M M2 n (by omega), zid M M2 (by omega)]
  have : (M ++ M2).getD n 0 = M.getD n 0 := by
   rw [List.getD_eq_getElem?_getD, List.getD_eq_getElem?_getD, List.getElem?_append_left (by omega)]
  rw [this]
end
structure Rdg where
 Dots : List Int
 Minor : List Int
 Choices : List Int
 Durs : List Tm
 deriving DecidableEq
def rdgE (r : Rdg) : List AV := [yh r.Dots, yh r.Minor, yh r.Choices, tmsA r.Durs]
abbrev rdgA (r : Rdg) : AV := .agg (rdgE r)
end Go.Rse
namespace Go.Rse
open Go Go.Proofs
section
variable {m : Mn} {k : Int} {l : List Ite} {n : Nat}
end
theorem zoL (u : Tm) (k : Int) (S : List Sgm) (l : List Ite) (M : List Int) (n : Nat) : (alK u k S l M n).length <= 5 := by
 unfold alK alQ alR;simp only [List.length_append];have h : ∀ (p : Prop) [Decidable p] (x : Int), (if p then [x] else []).length <= 1 := fun p _ x => by split <;> simp
 have a1 := h;refine Nat.le_trans (Nat.add_le_add (Nat.add_le_add (Nat.add_le_add (Nat.add_le_add (h _ _) (h _ _)) (h _ _)) (h _ _)) (h _ _)) (by omega)
end Go.Rse
namespace Go.Rse
open Go Go.Proofs
theorem zoM {m : Mn} {k : Int} {l : List Ite} {M : List Int} (h : apE m k l M = 0) : (apV m k l M).length = l.length := by
 unfold apV; rw [if_pos h]; exact zdn _ _ _ _ _
section
variable {m : Mn} {l : List Ite} {n : Nat} {k : Int}
theorem zoN (m : Mn) : (perfL m).length <= 4 := by
 unfold perfL; exact List.length_filter_le _ _
theorem zrh (hk : (perfL m)[n]? = some k) : 1 <= k /\ k <= 4 := by
 have h := List.mem_of_getElem? hk;rw [zeK] at h; exact ⟨h.1, h.2.1⟩
end
end Go.Rse
namespace Go.Rse
open Go Go.Proofs
def prodL : List Int -> Int
 | [] => 1
 | x :: r => x * prodL r
theorem zi5 {a b : Int} (h : 1 <= a) (h' : 1 <= b) : 1 <= a * b := by
 have := Int.mul_le_mul h h' (by omega) (by omega); simpa using this
theorem zjQ {a b : Int} (h : 1 <= a) (h' : 1 <= b) : a <= a * b := by
 have := Int.mul_le_mul_of_nonneg_left h' (show 0 <= a by omega); simpa using this
theorem zeL : ∀ {l : List Int}, (∀ x ∈ l, 1 <= x) -> 1 <= prodL l
 | [], _ => Int.le_refl _
 | x :: r, h => zi5 (h x (by simp)) (zeL fun y hy => h y (by simp [hy]))
theorem zef : ∀ (a b : List Int), prodL (a ++ b) = prodL a * prodL b
 | [], b => by simp [prodL]
 | x :: r, b => by simp only [List.cons_append, prodL, zef r b, Int.mul_assoc]
theorem zga : ∀ n, prodL (twos n) = 2 ^ n
 | 0 => rfl
 | n + 1 => by
  have e : twos (n + 1) = 2 :: twos n := by unfold twos; rfl
  rw [e]; simp only [prodL, zga n]; exact zqT n
def cntK : Int -> List Int -> Int
 | n, [] => n
 | n, x :: r => if n * x > 64 then n * x else cntK (n * x) r
theorem zmT : ∀ (L : List (List Int)) (n : Int), cntF n L = cntK n (L.map fun x => (x.length : Int))
 | [], n => rfl
 | x :: r, n => by simp only [cntF, List.map_cons, cntK, zmT r]
theorem zgb : ∀ {l : List Int}, (∀ x ∈ l, 1 <= x) -> ∀ {n : Int}, 1 <= n -> n <= 64 -> (64 < cntK n l ↔ 64 < n * prodL l) /\ (cntK n l <= 64 -> cntK n l = n * prodL l)
 | [], _, n, h1, h2 => by simp [cntK, prodL]
 | x :: r, h, n, h1, h2 => by
  have hx := h x (by simp);have hr : ∀ y ∈ r, 1 <= y := fun y hy => h y (by simp [hy])
  have hp := zeL hr;have hnx := zi5 h1 hx;have e : n * prodL (x :: r) = n * x * prodL r := by simp only [prodL, Int.mul_assoc]
  rw [e];unfold cntK;by_cases hg : n * x > 64
  ·rw [if_pos hg];have := zjQ hnx hp;exact ⟨⟨fun _ => by omega, fun _ => hg⟩, fun h => by omega⟩
  ·rw [if_neg hg];exact zgb hr hnx (by omega)
def kL (m : Mn) (l : List Sg) : List Int := (mnsD m l).map (fun x => (x.length : Int)) ++ twos (prL m l).length
def ictE (m : Mn) (l : List Sg) : Int := if cntE m l = 0 then (if colE m l = 0 then (if 64 < cntV m l * colN m l then 15 else 0) else colE m l) else cntE m l
def ictV (m : Mn) (l : List Sg) : Int := if ictE m l = 0 then cntV m l * colN m l else 0
theorem zmU {m : Mn} {l : List Sg} (hck : ckD m l = 0) : ∀ x ∈ kL m l, 1 <= x := fun x hx => by
 unfold kL at hx;rcases List.mem_append.1 hx with h | h
 ·obtain ⟨y, hy, rfl⟩ := List.mem_map.1 h;have := zd5 hck hy; omega
 ·unfold twos at h; rw [List.eq_of_mem_replicate h]; decide
theorem zoO {n : Nat} (h : 6 < n) : 64 < (2 : Int) ^ n := by
 obtain ⟨k, rfl⟩ : ∃ k, n = 7 + k := ⟨n - 7, by omega⟩;have : (1 : Int) <= 2 ^ k := Int.pow_pos (by decide);rw [Int.pow_add];have e : (2 : Int) ^ 7 = 128 := by decide
 rw [e]; omega
theorem zsR {m : Mn} {l : List Sg} (h : ¬ ckD m l = 0) : ictE m l = ckD m l /\ ictV m l = 0 := by
 have e : cntE m l = ckD m l := by unfold cntE; rw [if_neg h]
 have e2 : ictE m l = ckD m l := by unfold ictE; rw [e, if_neg h]
 exact ⟨e2, by unfold ictV; rw [e2, if_neg h]⟩
theorem zoP {m : Mn} {l : List Sg} (h : ckD m l = 0) : ictE m l = (if 64 < cntK 1 (kL m l) then 15 else 0) /\ ictV m l = (if 64 < cntK 1 (kL m l) then 0 else cntK 1 (kL m l)) := by
 have h1 : ∀ x ∈ (mnsD m l).map (fun x => (x.length : Int)), 1 <= x := fun x hx => zmU h x (by unfold kL; exact List.mem_append_left _ hx)
 have c1 := zgb h1 (n := 1) (by omega) (by omega);have c2 := zgb (zmU h) (n := 1) (by omega) (by omega);have p1 := zeL h1;have e : prodL (kL m l) = prodL ((mnsD m l).map (fun x => (x.length : Int))) * 2 ^ (prL m l).length := by unfold kL; rw [zef, zga]
 rw [← zmT] at c1;rw [e] at c2;simp only [Int.one_mul] at c1 c2;generalize prodL ((mnsD m l).map (fun x => (x.length : Int))) = p at *
 have e1 : cntE m l = if cntF 1 (mnsD m l) > 64 then 15 else 0 := by unfold cntE; rw [if_pos h]
 have e2 : cntV m l = if cntF 1 (mnsD m l) > 64 then 0 else cntF 1 (mnsD m l) := by unfold cntV; rw [if_pos h]
 have e3 : colE m l = if 6 < (prL m l).length then 15 else 0 := by unfold colE; rw [if_pos h]
 have e4 : colN m l = if 6 < (prL m l).length then 0 else 2 ^ (prL m l).length := by unfold colN; rw [if_pos h]
 by_cases g1 : 64 < cntF 1 (mnsD m l)
 ·have hp : 64 < p := c1.1.1 g1;have hq : (1 : Int) <= 2 ^ (prL m l).length := Int.pow_pos (by decide);have := zjQ p1 hq;have g2 := c2.1.2 (by omega);have : ictE m l = 15 := by unfold ictE; rw [e1, if_pos g1]; rfl
  exact ⟨by rw [if_pos g2]; exact this, by unfold ictV; rw [if_pos g2, this]; rfl⟩
 ·have hE1 : cntE m l = 0 := by rw [e1, if_neg (by omega)]
  have hV1 : cntV m l = p := by rw [e2, if_neg (by omega)]; exact c1.2 (by omega)
  by_cases g3 : 6 < (prL m l).length
  ·have hb := zoO g3;have hm : 2 ^ (prL m l).length <= p * 2 ^ (prL m l).length := by rw [Int.mul_comm]; exact zjQ (by omega) p1
   have g2 := c2.1.2 (by omega);have : ictE m l = 15 := by unfold ictE; rw [if_pos hE1, e3, if_pos g3]; rfl
   exact ⟨by rw [if_pos g2]; exact this, by unfold ictV; rw [if_pos g2, this]; rfl⟩
  ·have hE2 : colE m l = 0 := by rw [e3, if_neg g3]
   have hV2 : colN m l = 2 ^ (prL m l).length := by rw [e4, if_neg g3]
   have hE : ictE m l = if 64 < p * 2 ^ (prL m l).length then 15 else 0 := by unfold ictE; rw [if_pos hE1, if_pos hE2, hV1, hV2]
   by_cases g2 : 64 < cntK 1 (kL m l)
   ·rw [if_pos g2, if_pos g2];have : ictE m l = 15 := by rw [hE, if_pos (c2.1.1 g2)]
    exact ⟨this, by unfold ictV; rw [this]; rfl⟩
   ·rw [if_neg g2, if_neg g2];have : ictE m l = 0 := by rw [hE, if_neg (fun x => g2 (c2.1.2 x))]
    exact ⟨this, by unfold ictV; rw [if_pos this, hV1, hV2, c2.2 (by omega)]⟩
theorem zgc {m : Mn} {l : List Sg} (h : ictE m l = 0) : ckD m l = 0 /\ cntE m l = 0 /\ colE m l = 0 /\ (prL m l).length <= 6 /\ colN m l = 2 ^ (prL m l).length /\ ictV m l = cntV m l * colN m l /\ ictV m l <= 64 /\ 1 <= cntV m l := by
 have hck : ckD m l = 0 := by
  apply Classical.byContradiction; intro hn;rw [(zsR hn).1] at h; exact hn h
 have hV : ictV m l = cntV m l * colN m l := by unfold ictV; rw [if_pos h]
 unfold ictE at h;split at h
 ·next a =>
  split at h
  ·next b =>
   split at h
   ·omega
   ·next c =>
    obtain ⟨q1, q2, q3⟩ := zl1 b;refine ⟨hck, a, b, q2, q3, hV, by omega, ?_⟩;have e2 : cntV m l = if cntF 1 (mnsD m l) > 64 then 0 else cntF 1 (mnsD m l) := by unfold cntV; rw [if_pos hck]
    have hp := zfV (L := mnsD m l) (n := 1) (fun x hx => zd5 hck hx) (by omega) (by omega);unfold cntE at a; rw [if_pos hck] at a;split at a
    ·omega
    ·next d => rw [e2, if_neg d]; exact hp
  ·next b => exact absurd h b
 ·next a => exact absurd h a
def dgL : Int -> List Int -> List Int × Int
 | n, [] => ([], n)
 | n, b :: r => ((dgL n r).2 % b :: (dgL n r).1, (dgL n r).2 / b)
theorem zmV : ∀ {l : List Int} {n : Int}, 0 <= n -> (∀ x ∈ l, 1 <= x) -> 0 <= (dgL n l).2 /\ (dgL n l).2 <= n
 | [], n, h, _ => ⟨h, Int.le_refl _⟩
 | b :: r, n, h, hl => by
  obtain ⟨a, c⟩ := zmV (l := r) h (fun y hy => hl y (by simp [hy]));have hb := hl b (by simp);exact ⟨Int.ediv_nonneg a (by omega), Int.le_trans (Int.ediv_le_self _ a) c⟩
theorem zkL : ∀ (l : List Int) (n : Int), (dgL n l).1.length = l.length
 | [], n => rfl
 | b :: r, n => by simp [dgL, zkL r n]
def iofE (m : Mn) (l : List Sg) (n : Int) : Int := if ictE m l = 0 then (if n < 0 \/ ictV m l <= n then 2 else 0) else ictE m l
def iofD (m : Mn) (l : List Sg) (n : Int) : List Int := if iofE m l n = 0 then ofD (mnsD m l) (n / 2 ^ (prL m l).length) else []
def iofM (m : Mn) (l : List Sg) (n : Int) : List Int := if iofE m l n = 0 then digP n (prL m l).length (prL m l).length else []
theorem zp7 {m : Mn} {l : List Sg} {n : Int} (h : iofE m l n = 0) : ictE m l = 0 /\ 0 <= n /\ n < ictV m l := by
 unfold iofE at h;split at h
 ·next a =>
  split at h
  ·omega
  ·next b => exact ⟨a, by omega, by omega⟩
 ·next a => exact absurd h a
theorem zmW {m : Mn} {l : List Sg} {n : Int} (h : ¬ iofE m l n = 0) : iofD m l n = [] := by unfold iofD; rw [if_neg h]
theorem zmX {m : Mn} {l : List Sg} {n : Int} (h : ¬ iofE m l n = 0) : iofM m l n = [] := by unfold iofM; rw [if_neg h]
theorem zoQ : ∀ n : Fin 64, ∀ K : Fin 7, ∀ j : Fin 7, j.val < K.val -> ((n.val : Int) % 2 ^ K.val) / 2 ^ (K.val - 1 - j.val) % 2 = (n.val : Int) / 2 ^ (K.val - 1 - j.val) % 2 := by decide +kernel
theorem zoR {n : Int} {K : Nat} (h0 : 0 <= n) (h1 : n < 64) (hK : K <= 6) : digP (n % 2 ^ K) K K = digP n K K := by
 unfold digP;refine List.map_congr_left fun j hj => ?_
 have hj := List.mem_range.1 hj;unfold dig;have := zoQ ⟨n.toNat, by omega⟩ ⟨K, by omega⟩ ⟨j, by omega⟩ hj;simp only at this;rw [show ((n.toNat : Nat) : Int) = n by omega] at this;rw [this]
theorem zmY {m : Mn} {l : List Sg} {n : Int} (h : iofE m l n = 0) :
 ofE m l (n / colN m l % cntV m l) = 0 /\ ofL m l (n / colN m l % cntV m l) = iofD m l n /\ cfE m l (n % colN m l) = 0 /\ cfV m l (n % colN m l) = iofM m l n := by
 obtain ⟨hE, h0, h1⟩ := zp7 h;obtain ⟨hck, a, b, q2, q3, hV, h64, hc⟩ := zgc hE;have hb := zb2 q2;rw [← q3] at hb;have hq0 : 0 <= n / colN m l := Int.ediv_nonneg h0 (by omega);have hq1 : n / colN m l < cntV m l := Int.ediv_lt_of_lt_mul (by omega) (by rw [← hV]; exact h1);have hr0 : 0 <= n % colN m l := Int.emod_nonneg _ (by omega);have hr1 : n % colN m l < colN m l := Int.emod_lt_of_pos _ (by omega);have e0 : n / colN m l % cntV m l = n / colN m l := Int.emod_eq_of_lt hq0 hq1;rw [e0];have e1 : ofE m l (n / colN m l) = 0 := by unfold ofE; rw [if_pos a, if_neg (by omega)]
 have e2 : cfE m l (n % colN m l) = 0 := by unfold cfE; rw [if_pos b, if_neg (by omega)]
 refine ⟨e1, ?_, e2, ?_⟩
 ·unfold ofL iofD; rw [if_pos e1, if_pos h, q3]
 ·unfold cfV iofM; rw [if_pos b, if_neg (by omega), if_pos h, q3]; exact zoR h0 (by omega) q2
section
variable {m : Mn} {l : List Sg}
end
end Go.Rse
namespace Go.Rse
open Go Go.Proofs
theorem zgd {l : List Sg} {c : List Int} {a : List Bool} {d : List Tm} : ∀ (n : Nat) {i : Nat} {x : Ite}, (itK l c a d n)[i]? = some x -> ∃ (k : Nat) (s : Sg), k < n /\ l[k]? = some s /\ ¬ s.Kind = 3 /\ ntN l k = i /\ x = itOf k s (c.getD i 0) (a.getD i false) (d.getD i ⟨0, 0⟩)
 | 0, i, x, h => by simp [itK] at h
 | n + 1, i, x, h => by
  cases hs : l[n]? with
  | none =>
   simp only [itK, hs] at h;obtain ⟨k, s, h1, h2⟩ := zgd n h;exact ⟨k, s, by omega, h2⟩
  | some s =>
   by_cases hK : s.Kind = 3
   ·rw [← zh3 hs hK] at h;obtain ⟨k, s, h1, h2⟩ := zgd n h;exact ⟨k, s, by omega, h2⟩
   ·simp only [itK, hs, if_neg hK] at h;rw [List.getElem?_append] at h;split at h
    ·obtain ⟨k, s, h1, h2⟩ := zgd n h;exact ⟨k, s, by omega, h2⟩
    ·rename_i hi;have hlt := (List.getElem?_eq_some_iff.1 h).1;rw [zfZ] at hi hlt h;have e : i = ntN l n := by simp at hlt; omega
     subst e;simp at h;exact ⟨n, s, by omega, hs, hK, rfl, h.symm⟩
def zx (ch : List Int) (l : List Sg) (n k : Nat) : Int × Bool := match l[k + 1]? with
 | some z => if k + 1 < n /\ z.Kind = 3 then (ch.getD (yK l (k + 1)).length 0, decide (ch.getD (yK l (k + 1)).length 0 = 0)) else (0, false)
 | none => (0, false)
theorem zdo {l : List Sg} {k j : Nat} {s : Sg} (hs : l[k]? = some s) (h : ¬ s.Kind = 3) (hkj : k < j) : ntN l k < ntN l j := by
 have := zfY l j (k + 1) hkj;rw [zdN hs h] at this; omega
theorem zmZ {ch : List Int} {l : List Sg} (hD : ∀ (i : Nat) z, l[i]? = some z -> z.Kind = 3 -> ∃ (j : Nat) (p : Sg), i = j + 1 /\ l[j]? = some p /\ ¬ p.Kind = 3) :
 ∀ (n k : Nat) (s : Sg), k < n -> l[k]? = some s -> ¬ s.Kind = 3 -> (mkK ch l n).1[ntN l k]? = some (zx ch l n k).1 /\ (mkK ch l n).2.1[ntN l k]? = some (zx ch l n k).2
 | 0, k, s, h, _, _ => by omega
 | n + 1, k, s, hk, hs, h3 => by
  have ih := zmZ (ch := ch) hD n k s;have hl1 := zh1 ch l n;have hl2 := (zdY ch l n).1;have hl3 := (zdY ch l n).2.2
  have same : ∀ (hne : ¬ (k + 1 = n /\ ∃ z, l[n]? = some z /\ z.Kind = 3)), k < n -> zx ch l (n + 1) k = zx ch l n k := fun hne hkn => by
   unfold zx;cases hz : l[k + 1]? with
   | none => rfl
   | some z =>
    simp only;by_cases h1 : k + 1 < n /\ z.Kind = 3
    ·rw [if_pos h1, if_pos ⟨by omega, h1.2⟩]
    ·rw [if_neg h1, if_neg]
     rintro ⟨h2, h4⟩
     have e : k + 1 = n := Classical.byContradiction fun hn => h1 ⟨by omega, h4⟩
     exact hne ⟨e, z, by rw [← e]; exact hz, h4⟩
  cases hz : l[n]? with
  | none =>
   have hkn : k < n := by
    have h1 := (List.getElem?_eq_some_iff.1 hs).1;have h2 := List.getElem?_eq_none_iff.1 hz;omega
   have e : mkK ch l (n + 1) = mkK ch l n := by simp only [mkK, hz]
   rw [e, same (fun x => by obtain ⟨_, z, h1, _⟩ := x; rw [hz] at h1; cases h1) hkn];exact ih hkn hs h3
  | some z =>
   by_cases hK : z.Kind = 3
   ·obtain ⟨j, p, hj, hp, hp3⟩ := hD n z hz hK;subst hj
    have hkn : k < j + 1 := by
     rcases Nat.lt_or_ge k (j + 1) with h1 | h1
     ·exact h1
     ·have : k = j + 1 := by omega
      subst this; rw [hz] at hs; injection hs with hs; subst hs; exact absurd hK h3
    have hnj : ntN l (j + 1) = ntN l j + 1 := zdN hp hp3;obtain ⟨i1, i2⟩ := ih hkn hs h3;rw [zdX hz hK];have e1 : (((mkK ch l (j + 1)).1.length : Int) - 1).toNat = ntN l j := by omega
    have e2 : (((mkK ch l (j + 1)).2.1.length : Int) - 1).toNat = ntN l j := by omega
    rw [e1, e2];by_cases hkj : k = j
    ·subst hkj
     have ea : zx ch l (k + 1 + 1) k = (ch.getD (yK l (k + 1)).length 0, decide (ch.getD (yK l (k + 1)).length 0 = 0)) := by
      unfold zx; rw [hz]; simp only; rw [if_pos ⟨by omega, hK⟩]
     rw [ea, hl3];constructor
     ·rw [List.getElem?_set_self (by omega)]
     ·rw [List.getElem?_set_self (by omega)]
    ·have hne : ntN l j ≠ ntN l k := by have := zdo hs h3 (show k < j by omega); omega
     rw [same (fun x => by omega) hkn, List.getElem?_set_ne hne, List.getElem?_set_ne hne];exact ⟨i1, i2⟩
   ·rw [zcJ hz hK];by_cases hkn : k < n
    ·obtain ⟨i1, i2⟩ := ih hkn hs h3;rw [same (fun x => by obtain ⟨_, z', h1, h2⟩ := x; rw [hz] at h1; injection h1 with h1; subst h1; exact hK h2) hkn];have g1 := (List.getElem?_eq_some_iff.1 i1).1;have g2 := (List.getElem?_eq_some_iff.1 i2).1;exact ⟨by rw [List.getElem?_append_left g1]; exact i1, by rw [List.getElem?_append_left g2]; exact i2⟩
    ·have e : k = n := by omega
     subst e
     have ea : zx ch l (k + 1) k = (0, false) := by
      unfold zx;cases l[k + 1]? with
      | none => rfl
      | some z' => simp only; rw [if_neg (by omega)]
     rw [ea];constructor
     ·show ((mkK ch l k).1 ++ [0])[ntN l k]? = some 0;rw [← hl1]; simp
     ·show ((mkK ch l k).2.1 ++ [false])[ntN l k]? = some false;rw [← hl1, hl2]; simp
end Go.Rse
namespace Go.Rse
open Go Go.Proofs
theorem za7 {m : Mn} {l : List Sg} {x : Int} (h : za m l x = true) : x + 1 < (l.length : Int) /\ clr (l.getD x.toNat default) = true /\ (l.getD x.toNat default).Value = 4 /\ clr (l.getD (x + 1).toNat default) = true /\ (l.getD (x + 1).toNat default).Value = 5 := by
 unfold za zaz at h;simp only [Bool.and_eq_true, decide_eq_true_eq] at h;obtain ⟨_, ⟨⟨⟨⟨⟨⟨h1, h2⟩, h3⟩, h4⟩, h5⟩, _⟩, _⟩, _⟩ := h;exact ⟨h1, h2, h3, h4, h5⟩
theorem zdp {m : Mn} {l : List Sg} : ∀ (k : Nat) (x : Int), x ∈ zh m l k -> za m l x = true /\ 0 <= x /\ x < (k : Int)
 | 0, x, h => by unfold zh at h; simp at h
 | k + 1, x, h => by
  unfold zh at h;split at h
  ·rename_i hp;rcases List.mem_append.1 h with h | h
   ·have := zdp k x h; exact ⟨this.1, by omega, by omega⟩
   ·simp at h; subst h; exact ⟨hp, by omega, by omega⟩
  ·have := zdp k x h; exact ⟨this.1, by omega, by omega⟩
theorem zoS {m : Mn} {l : List Sg} {x : Int} (h : x ∈ prL m l) : za m l x = true /\ 0 <= x /\ x < (l.length : Int) := by
 unfold prL at h;split at h
 ·unfold zN at h; exact zdp _ x h
 ·simp at h
theorem zge {l : List Sg} {k : Nat} {s : Sg} (hs : l[k]? = some s) (h3 : s.Kind = 3) : ∀ n, k < n -> (yK l n)[(yK l k).length]? = some (k : Int)
 | 0, h => by omega
 | n + 1, h => by
  rcases Nat.lt_or_ge k n with h1 | h1
  ·have ih := zge hs h3 n h1;have hl := (List.getElem?_eq_some_iff.1 ih).1;rw [yK, List.getElem?_append, if_pos hl]; exact ih
  ·have : k = n := by omega
   subst this;rw [yK, List.getElem?_append, if_neg (by omega)];simp [hs, h3]
theorem zdq (p mi : List Int) (q : Int) : ∀ k, mget q (zab p mi k) = none \/ ∃ j, j < k /\ (q = p.getD j 0 \/ q = p.getD j 0 + 1)
 | 0 => .inl (by simp [zab, ziT])
 | k + 1 => by
  have ih := zdq p mi q k;unfold zab;split
  ·rw [zU, zU];by_cases h1 : p.getD k 0 + 1 = q
   ·exact .inr ⟨k, by omega, .inr h1.symm⟩
   ·by_cases h2 : p.getD k 0 = q
    ·exact .inr ⟨k, by omega, .inl h2.symm⟩
    ·rw [if_neg h1, if_neg h2];rcases ih with h | ⟨j, h3, h4⟩
     ·exact .inl h
     ·exact .inr ⟨j, by omega, h4⟩
  ·rcases ih with h | ⟨j, h3, h4⟩
   ·exact .inl h
   ·exact .inr ⟨j, by omega, h4⟩
def zp8 (m : Mn) (v : Int) : Bool := decide (1 <= (fullT m v).N) && decide (1 <= (durT m v).N) && decide (1 <= (mulV (fullT m v) ⟨3, 2⟩).N) && decide (1 <= (mulV (durT m v) ⟨3, 2⟩).N)
theorem zlz : zd6 zp8 = true := by kernel_rfl
theorem zoT {m : Mn} {s : Sg} {z : Tm} (hm : ckM m = 0) (h1 : 1 <= s.Value) (h8 : s.Value <= 8) (hz : z = bsT m s \/ z = ⟨3, 2⟩ \/ z = ⟨1, 2⟩) : 1 <= z.N /\ 1 <= (mulV z ⟨3, 2⟩).N := by
 have h := zaU zlz hm h1 h8;unfold zp8 at h;simp only [Bool.and_eq_true, decide_eq_true_eq] at h;rcases hz with rfl | rfl | rfl
 ·unfold bsT; split
  ·exact ⟨h.1.1.2, h.2⟩
  ·exact ⟨h.1.1.1, h.1.2⟩
 ·exact ⟨by decide, by decide +kernel⟩
 ·exact ⟨by decide, by decide +kernel⟩
theorem zjR {m : Mn} {l : List Sg} {ch : List Int} (h : mkE m l ch = 0) : (mnsD m l).length = ch.length /\ chOk ch (mnsD m l) := by
 have hck := zbR h;unfold mkE at h;rw [if_pos hck] at h;split at h
 ·assumption
 ·cases h
end Go.Rse
