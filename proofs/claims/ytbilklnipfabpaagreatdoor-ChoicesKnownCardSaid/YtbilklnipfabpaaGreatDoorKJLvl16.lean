/-
  Allowed and Apply: one contract for all inputs.
-/
import Derived.Test.YtbilklnipfabpaaGreatDoorKJLvl12
import Derived.Test.YtbilklnipfabpaaGreatDoorKJLvl3
import Derived.Test.YtbilklnipfabpaaGreatDoorKJDurs2
import Derived.Test.YtbilklnipfabpaaGreatDoorKJColor4
import Derived.Test.YtbilklnipfabpaaGreatDoorKDot9
import Derived.Test.YtbilklnipfabpaaGreatDoorKJFull1
import Derived.Test.YtbilklnipfabpaaGreatDoorKJTime
import Derived.Test.YtbilklnipfabpaaGreatDoorKJMens2
import Derived.Test.YtbilklnipfabpaaGreatDoorKLogB
import Derived.Test.YtbilklnipfabpaaGreatDoorKLogC
set_option linter.unusedSimpArgs false
set_option linter.unusedVariables false
namespace Go.Rse
open Go Go.Proofs
attribute [local irreducible] Pur yA yC Ex X Fn Imp LeV LeB FnO It yF FnW FnOW
theorem zmS (n d : Int) : 0 <= (tmkT n d).N := by
 unfold tmkT;split
 ·rename_i h;unfold tmkE at h;split at h
  ·cases h
  ·refine Int.ediv_nonneg (by omega) ?_;unfold gI; omega
 ·exact Int.le_refl _
theorem zoZ (u : Tm) (l : List Ite) (s : Sgm) : 0 <= (cnV u l s).N := by
 unfold cnV;split
 ·unfold divV;split
  ·split
   ·exact Int.le_refl _
   ·unfold tmsV;split
    ·exact Int.le_refl _
    ·exact zmS _ _
  ·exact Int.le_refl _
 ·exact Int.le_refl _
theorem zhc (m : Mn) (k : Int) (l : List Ite) : ∀ s ∈ segV m k l, 0 <= s.Count.N := by
 unfold segV;split
 ·intro s hs;obtain ⟨t, ht, rfl⟩ := List.mem_map.1 hs;exact zoZ _ _ _
 ·intro s hs; cases hs
section
variable {m : Mn} {k : Int} {l : List Ite} {M : List Int}
theorem zr3 (h : ¬ segE m k l = 0) : alE m k l M = segE m k l /\ alV m k l M = [] := by
 have : alE m k l M = segE m k l := by unfold alE; rw [if_neg h]
 refine ⟨this, ?_⟩; unfold alV; rw [this, if_neg h]
theorem zqp (h : segE m k l = 0) (h2 : (segV m k l).length <= M.length \/ okJ (unT m k) k (segV m k l) l M M.length = false) : alE m k l M = 2 /\ alV m k l M = [] := by
 have : alE m k l M = 2 := by unfold alE; rw [if_pos h, if_pos h2]
 refine ⟨this, ?_⟩; unfold alV; rw [this, if_neg (by decide)]
theorem zr4 (h : segE m k l = 0) (h2 : ¬ ((segV m k l).length <= M.length \/ okJ (unT m k) k (segV m k l) l M M.length = false)) : alE m k l M = 0 /\ alV m k l M = alK (unT m k) k (segV m k l) l M M.length := by
 have : alE m k l M = 0 := by unfold alE; rw [if_pos h, if_neg h2]
 refine ⟨this, ?_⟩; unfold alV; rw [if_pos this]
theorem zr5 (h : ¬ segE m k l = 0) : apE m k l M = segE m k l /\ apV m k l M = [] := by
 have : apE m k l M = segE m k l := by unfold apE; rw [if_neg h]
 refine ⟨this, ?_⟩; unfold apV; rw [this, if_neg h]
theorem zqq (h : segE m k l = 0) (h2 : ¬ (segV m k l).length = M.length \/ okJ (unT m k) k (segV m k l) l M M.length = false) : apE m k l M = 2 /\ apV m k l M = [] := by
 have : apE m k l M = 2 := by unfold apE; rw [if_pos h, if_pos h2]
 refine ⟨this, ?_⟩; unfold apV; rw [this, if_neg (by decide)]
theorem zr6 (h : segE m k l = 0) (h2 : ¬ (¬ (segV m k l).length = M.length \/ okJ (unT m k) k (segV m k l) l M M.length = false)) : apE m k l M = 0 /\ apV m k l M = (stK (unT m k) (segV m k l) l M M.length).1 := by
 have : apE m k l M = 0 := by unfold apE; rw [if_pos h, if_neg h2]
 refine ⟨this, ?_⟩; unfold apV; rw [if_pos this]
end
theorem zeT (m : Mn) (k : Int) (l : List Ite) (M : List Int) (h0 : -9223372036854775808 <= k) (h1 : k <= 9223372036854775807) (hl : l.length <= 1000000) (hM : M.length <= 4000000) : Fn Tryz.prog 162 [mnA m, iv k, itsA l, yg M] (.tup [yg (alV m k l M), iv (alE m k l M)]) := by
 by_cases hE : segE m k l = 0
 ·by_cases hX : (segV m k l).length <= M.length
  ·obtain ⟨e1, e2⟩ := zqp hE (.inl hX); rw [e1, e2];exact zdU m k l M h0 h1 hl hM hE (by simpa using hX)
  ·by_cases hO : okJ (unT m k) k (segV m k l) l M M.length = false
   ·obtain ⟨e1, e2⟩ := zqp hE (.inr hO); rw [e1, e2];exact zdV m k l M h0 h1 hl hM hE (by simp; omega) (hok := hO) (hN := zhc m k l) (hMS := by omega)
   ·obtain ⟨e1, e2⟩ := zr4 hE (fun h => h.elim hX hO); rw [e1, e2];exact zdW m k l M h0 h1 hl hM hE (by simp; omega) (hok := by simpa using hO) (hN := zhc m k l) (hMS := by omega)
 ·obtain ⟨e1, e2⟩ := zr3 (M := M) hE; rw [e1, e2];exact zdT m k l M h0 h1 hl hM hE
theorem zdi (m : Mn) (k : Int) (l : List Ite) (M : List Int) (h0 : -9223372036854775808 <= k) (h1 : k <= 9223372036854775807) (hl : l.length <= 1000000) (hM : M.length <= 4000000) : Fn Tryz.prog 48 [mnA m, iv k, itsA l, yg M] (.tup [itsA (apV m k l M), iv (apE m k l M)]) := by
 by_cases hE : segE m k l = 0
 ·by_cases hX : (segV m k l).length = M.length
  ·by_cases hO : okJ (unT m k) k (segV m k l) l M M.length = false
   ·obtain ⟨e1, e2⟩ := zqq hE (.inr hO); rw [e1, e2];exact zeR m k l M h0 h1 hl hM hE (by simp; omega) (hok := hO) (hN := zhc m k l) (hMS := by omega)
   ·obtain ⟨e1, e2⟩ := zr6 hE (fun h => h.elim (fun g => g hX) hO); rw [e1, e2];exact zeS m k l M h0 h1 hl hM hE (by simp; omega) (hok := by simpa using hO) (hN := zhc m k l) (hMS := by omega)
  ·obtain ⟨e1, e2⟩ := zqq hE (.inl hX); rw [e1, e2];exact zeQ m k l M h0 h1 hl hM hE (by simp; omega)
 ·obtain ⟨e1, e2⟩ := zr5 (M := M) hE; rw [e1, e2];exact zeP m k l M h0 h1 hl hM hE
end Go.Rse
namespace Go.Rse
open Go Go.Proofs
section
variable {u : Tm} {k : Int} {S : List Sgm} {l : List Ite}
end
structure Rdg where
 Dots : List Int
 Minor : List Int
 Choices : List Int
 Durs : List Tm
 deriving DecidableEq
def rdgE (r : Rdg) : List AV := [yg r.Dots, yg r.Minor, yg r.Choices, tmsA r.Durs]
abbrev rdgA (r : Rdg) : AV := .agg (rdgE r)
end Go.Rse
namespace Go.Rse
open Go Go.Proofs
section
variable {m : Mn} {k : Int} {l : List Ite} {n : Nat}
end
theorem zmT (u : Tm) (k : Int) (S : List Sgm) (l : List Ite) (M : List Int) (n : Nat) : (alK u k S l M n).length <= 5 := by
 unfold alK alQ alR;simp only [List.length_append];have h : ∀ (p : Prop) [Decidable p] (x : Int), (if p then [x] else []).length <= 1 := fun p _ x => by split <;> simp
 have a1 := h;refine Nat.le_trans (Nat.add_le_add (Nat.add_le_add (Nat.add_le_add (Nat.add_le_add (h _ _) (h _ _)) (h _ _)) (h _ _)) (h _ _)) (by omega)
end Go.Rse
namespace Go.Rse
open Go Go.Proofs
theorem zjj {m : Mn} {k : Int} {l : List Ite} {M : List Int} (h : apE m k l M = 0) : (apV m k l M).length = l.length := by
 unfold apV; rw [if_pos h]; exact zc1 _ _ _ _ _
section
variable {m : Mn} {l : List Ite} {n : Nat} {k : Int}
theorem zhd (m : Mn) : (perfL m).length <= 4 := by
 unfold perfL; exact List.length_filter_le _ _
theorem zli (hk : (perfL m)[n]? = some k) : 1 <= k /\ k <= 4 := by
 have h := List.mem_of_getElem? hk;rw [zen] at h; exact ⟨h.1, h.2.1⟩
end
end Go.Rse
namespace Go.Rse
open Go Go.Proofs
def ictE (m : Mn) (l : List Sg) : Int := if cntE m l = 0 then (if colE m l = 0 then (if 64 < cntV m l * colN m l then 15 else 0) else colE m l) else cntE m l
def ictV (m : Mn) (l : List Sg) : Int := if ictE m l = 0 then cntV m l * colN m l else 0
theorem zqr {m : Mn} {l : List Sg} (h : ¬ ckD m l = 0) : ictE m l = ckD m l /\ ictV m l = 0 := by
 have e : cntE m l = ckD m l := by unfold cntE; rw [if_neg h]
 have e2 : ictE m l = ckD m l := by unfold ictE; rw [e, if_neg h]
 exact ⟨e2, by unfold ictV; rw [e2, if_neg h]⟩
theorem zfD {m : Mn} {l : List Sg} (h : ictE m l = 0) : ckD m l = 0 /\ cntE m l = 0 /\ colE m l = 0 /\ (prL m l).length <= 6 /\ colN m l = 2 ^ (prL m l).length /\ ictV m l = cntV m l * colN m l /\ ictV m l <= 64 /\ 1 <= cntV m l := by
 have hck : ckD m l = 0 := by
  apply Classical.byContradiction; intro hn;rw [(zqr hn).1] at h; exact hn h
 have hV : ictV m l = cntV m l * colN m l := by unfold ictV; rw [if_pos h]
 unfold ictE at h;split at h
 ·next a =>
  split at h
  ·next b =>
   split at h
   ·omega
   ·next c =>
    obtain ⟨q1, q2, q3⟩ := zkE b;refine ⟨hck, a, b, q2, q3, hV, by omega, ?_⟩;have e2 : cntV m l = if cntF 1 (mnsD m l) > 64 then 0 else cntF 1 (mnsD m l) := by unfold cntV; rw [if_pos hck]
    have hp := zfw (L := mnsD m l) (n := 1) (fun x hx => zfx hck hx) (by omega) (by omega);unfold cntE at a; rw [if_pos hck] at a;split at a
    ·omega
    ·next d => rw [e2, if_neg d]; exact hp
  ·next b => exact absurd h b
 ·next a => exact absurd h a
def dgL : Int -> List Int -> List Int × Int
 | n, [] => ([], n)
 | n, b :: r => ((dgL n r).2 % b :: (dgL n r).1, (dgL n r).2 / b)
theorem zlj : ∀ {l : List Int} {n : Int}, 0 <= n -> (∀ x ∈ l, 1 <= x) -> 0 <= (dgL n l).2 /\ (dgL n l).2 <= n
 | [], n, h, _ => ⟨h, Int.le_refl _⟩
 | b :: r, n, h, hl => by
  obtain ⟨a, c⟩ := zlj (l := r) h (fun y hy => hl y (by simp [hy]));have hb := hl b (by simp);exact ⟨Int.ediv_nonneg a (by omega), Int.le_trans (Int.ediv_le_self _ a) c⟩
theorem zjk : ∀ (l : List Int) (n : Int), (dgL n l).1.length = l.length
 | [], n => rfl
 | b :: r, n => by simp [dgL, zjk r n]
def iofE (m : Mn) (l : List Sg) (n : Int) : Int := if ictE m l = 0 then (if n < 0 \/ ictV m l <= n then 2 else 0) else ictE m l
def iofD (m : Mn) (l : List Sg) (n : Int) : List Int := if iofE m l n = 0 then ofD (mnsD m l) (n / 2 ^ (prL m l).length) else []
def iofM (m : Mn) (l : List Sg) (n : Int) : List Int := if iofE m l n = 0 then digP n (prL m l).length (prL m l).length else []
theorem zn0 {m : Mn} {l : List Sg} {n : Int} (h : iofE m l n = 0) : ictE m l = 0 /\ 0 <= n /\ n < ictV m l := by
 unfold iofE at h;split at h
 ·next a =>
  split at h
  ·omega
  ·next b => exact ⟨a, by omega, by omega⟩
 ·next a => exact absurd h a
theorem zlk {m : Mn} {l : List Sg} {n : Int} (h : ¬ iofE m l n = 0) : iofD m l n = [] := by unfold iofD; rw [if_neg h]
theorem zll {m : Mn} {l : List Sg} {n : Int} (h : ¬ iofE m l n = 0) : iofM m l n = [] := by unfold iofM; rw [if_neg h]
theorem zmU : ∀ n : Fin 64, ∀ K : Fin 7, ∀ j : Fin 7, j.val < K.val -> ((n.val : Int) % 2 ^ K.val) / 2 ^ (K.val - 1 - j.val) % 2 = (n.val : Int) / 2 ^ (K.val - 1 - j.val) % 2 := by decide +kernel
theorem zmV {n : Int} {K : Nat} (h0 : 0 <= n) (h1 : n < 64) (hK : K <= 6) : digP (n % 2 ^ K) K K = digP n K K := by
 unfold digP;refine List.map_congr_left fun j hj => ?_
 have hj := List.mem_range.1 hj;unfold dig;have := zmU ⟨n.toNat, by omega⟩ ⟨K, by omega⟩ ⟨j, by omega⟩ hj;simp only at this;rw [show ((n.toNat : Nat) : Int) = n by omega] at this;rw [this]
theorem zlm {m : Mn} {l : List Sg} {n : Int} (h : iofE m l n = 0) :
 ofE m l (n / colN m l % cntV m l) = 0 /\ ofL m l (n / colN m l % cntV m l) = iofD m l n /\ cfE m l (n % colN m l) = 0 /\ cfV m l (n % colN m l) = iofM m l n := by
 obtain ⟨hE, h0, h1⟩ := zn0 h;obtain ⟨hck, a, b, q2, q3, hV, h64, hc⟩ := zfD hE;have hb := zbT q2;rw [← q3] at hb;have hq0 : 0 <= n / colN m l := Int.ediv_nonneg h0 (by omega);have hq1 : n / colN m l < cntV m l := Int.ediv_lt_of_lt_mul (by omega) (by rw [← hV]; exact h1);have hr0 : 0 <= n % colN m l := Int.emod_nonneg _ (by omega);have hr1 : n % colN m l < colN m l := Int.emod_lt_of_pos _ (by omega);have e0 : n / colN m l % cntV m l = n / colN m l := Int.emod_eq_of_lt hq0 hq1;rw [e0];have e1 : ofE m l (n / colN m l) = 0 := by unfold ofE; rw [if_pos a, if_neg (by omega)]
 have e2 : cfE m l (n % colN m l) = 0 := by unfold cfE; rw [if_pos b, if_neg (by omega)]
 refine ⟨e1, ?_, e2, ?_⟩
 ·unfold ofL iofD; rw [if_pos e1, if_pos h, q3]
 ·unfold cfV iofM; rw [if_pos b, if_neg (by omega), if_pos h, q3]; exact zmV h0 (by omega) q2
section
variable {m : Mn} {l : List Sg}
end
end Go.Rse
namespace Go.Rse
open Go Go.Proofs
theorem zn1 {l : List Sg} {k j : Nat} (h : ntN l j < ntN l k) : j < k := by
 rcases Nat.lt_or_ge j k with h1 | h1
 ·exact h1
 ·have := zfz l j k h1; omega
end Go.Rse
namespace Go.Rse
open Go Go.Proofs
end Go.Rse
namespace Go.Rse
open Go Go.Proofs
def ofG : List (List Int) -> Int -> List Int
 | [], _ => []
 | x :: R, n => ofG R (n / (x.length : Int)) ++ [x.getD (n % (x.length : Int)).toNat 0]
def cntG : List (List Int) -> Int
 | [] => 1
 | x :: R => (x.length : Int) * cntG R
theorem zjl : ∀ (R : List (List Int)) (n : Int), (ofG R n).length = R.length
 | [], _ => rfl
 | x :: R, n => by simp [ofG, zjl R]
def Asc (x : List Int) : Prop := (∃ a, x = [a]) \/ (∃ a b, x = [a, b] /\ a < b)
theorem Asc.len {x : List Int} (h : Asc x) : x.length = 1 \/ x.length = 2 := by
 rcases h with ⟨a, rfl⟩ | ⟨a, b, rfl, _⟩
 ·exact .inl rfl
 ·exact .inr rfl
theorem zh0 : ∀ {R : List (List Int)}, (∀ x ∈ R, Asc x) -> 1 <= cntG R
 | [], _ => by simp [cntG]
 | x :: R, h => by
  have h1 := (h x (by simp)).len;have h2 := zh0 (R := R) fun y hy => h y (by simp [hy])
  simp only [cntG];rcases h1 with e | e <;> rw [e] <;> omega
inductive ChG : List (List Int) -> List Int -> Prop
 | nil : ChG [] []
 | snoc {x : List Int} {R : List (List Int)} {r : List Int} {v : Int} (hv : v ∈ x) (h : ChG R r) : ChG (x :: R) (r ++ [v])
theorem zln : ∀ {R : List (List Int)}, (∀ x ∈ R, Asc x) -> ∀ {n : Int}, 0 <= n -> n < cntG R -> ChG R (ofG R n)
 | [], _, n, _, _ => .nil
 | x :: R, h, n, h0, h1 => by
  have hR : ∀ y ∈ R, Asc y := fun y hy => h y (by simp [hy])
  simp only [cntG] at h1;simp only [ofG];have hl := (h x (by simp)).len;have hm0 : 0 <= n % (x.length : Int) := Int.emod_nonneg _ (by omega);have hm1 : n % (x.length : Int) < (x.length : Int) := Int.emod_lt_of_pos _ (by omega);refine .snoc ?_ (zln hR (Int.ediv_nonneg h0 (by omega)) (Int.ediv_lt_of_lt_mul (by omega) (by rw [Int.mul_comm]; exact h1)));rw [List.getD_eq_getElem?_getD, lgg (by omega)];exact List.getElem_mem _
theorem zjm (L : List (List Int)) (n : Int) : ∀ (d j : Nat), j + d = L.length -> zay L n L.length = ofG (L.take d).reverse (ofN L n j) ++ zay L n j
 | 0, j, h => by
  have : j = L.length := by omega
  subst this; simp [ofG]
 | d + 1, j, h => by
  have hd : L[d]? = some L[d] := lgg (by omega)
  have hg : L.getD (L.length - 1 - j) [] = L[d] := by
   rw [show L.length - 1 - j = d by omega, List.getD_eq_getElem?_getD, hd]; rfl
  rw [zjm L n d (j + 1) (by omega), List.take_add_one, hd];simp only [Option.toList_some, List.reverse_append, List.reverse_cons, List.reverse_nil, List.nil_append, List.cons_append, ofG, zay, ofN, ofV, hg, List.append_assoc]
theorem zn2 (L : List (List Int)) (n : Int) : ofD L n = ofG L.reverse n := by
 have := zjm L n L.length 0 (by omega);rw [List.take_length] at this;simpa [ofD, zay, ofN] using this
theorem zcz : ∀ (A B : List (List Int)), cntG (A ++ B) = cntG A * cntG B
 | [], B => by simp [cntG]
 | x :: A, B => by simp only [List.cons_append, cntG, zcz A B, Int.mul_assoc]
theorem zh1 : ∀ (L : List (List Int)), cntG L.reverse = cntG L
 | [] => rfl
 | x :: L => by
  rw [List.reverse_cons, zcz, zh1 L];simp only [cntG, Int.mul_one]; exact Int.mul_comm _ _
theorem zgD : ∀ {L : List (List Int)} {n : Int}, cntF n L <= 64 -> cntF n L = n * cntG L
 | [], n, h => by simp [cntF, cntG]
 | x :: L, n, h => by
  unfold cntF at h ⊢;split at h
  ·omega
  ·rename_i h1;rw [if_neg h1, zgD h];simp only [cntG, Int.mul_assoc]
theorem zn3 {m : Mn} {l : List Sg} (h : cntE m l = 0) : cntV m l = cntG (mnsD m l).reverse := by
 have hc := zi9 h;unfold cntE at h;rw [if_pos hc] at h;unfold cntV;rw [if_pos hc];by_cases h1 : cntF 1 (mnsD m l) > 64
 ·rw [if_pos h1] at h; simp at h
 ·rw [if_neg h1, zh1, zgD (by omega), Int.one_mul]
theorem zo0 {R : List (List Int)} {r : List Int} (hc : ChG R r) : r.length = R.length /\ ∀ (i : Nat) x v, R.reverse[i]? = some x -> r[i]? = some v -> v ∈ x := by
 induction hc with
 | nil => exact ⟨rfl, fun i x v h => by simp at h⟩
 | @snoc x0 R r v0 hv _ ih =>
  refine ⟨by simp [ih.1], fun i x v hx hvv => ?_⟩;rw [List.reverse_cons, List.getElem?_append] at hx;rw [List.getElem?_append] at hvv;simp only [List.length_reverse] at hx;by_cases hi : i < R.length
  ·rw [if_pos hi] at hx;rw [if_pos (by omega)] at hvv;exact ih.2 i x v hx hvv
  ·rw [if_neg hi] at hx;rw [if_neg (by omega)] at hvv
   have e1 : i - R.length = 0 := by
    have := (List.getElem?_eq_some_iff.1 hx).1;simp at this; omega
   rw [e1] at hx;rw [ih.1, e1] at hvv;simp at hx hvv;subst hx; subst hvv; exact hv
theorem zqs {L : List (List Int)} {r : List Int} (hc : ChG L.reverse r) : L.length = r.length /\ chOk r L := by
 obtain ⟨h1, h2⟩ := zo0 hc;rw [List.reverse_reverse] at h2;exact ⟨by simpa using h1.symm, zfo.2 h2⟩
def zn4 (x : List Int) (c : Int) : Prop := (∃ a, x = [a] /\ c = a) \/ (∃ a b, x = [a, b] /\ a < b /\ (c = a \/ c = b))
theorem zh2 {m : Mn} {l : List Sg} {i : Int} {p : Sg} (hM : ckM m = 0) (h1 : 1 <= p.Value) : zn4 (mngR m p) (ze2 m l i p) := by
 have ha := ziJ (m := m) h1;unfold ze2 mngR;by_cases hK : p.Kind = 2
 ·simp only [hK, if_true]; exact .inl ⟨_, rfl, by simp⟩
 ·simp only [hK, if_false];by_cases hC : p.Color = true
  ·simp only [hC, if_true]; exact .inl ⟨0, rfl, by simp⟩
  ·simp only [hC, if_false];by_cases h2 : m.p p.Value = 2 /\ m.aV p.Value = 0
   ·simp only [h2, and_self, if_true]; exact .inl ⟨0, rfl, by simp⟩
   ·rw [if_neg h2];by_cases h3 : m.p p.Value = 2
    ·have h4 : ¬ m.aV p.Value = 0 := fun h => h2 ⟨h3, h⟩
     rw [if_pos h3];refine .inr ⟨0, m.aV p.Value, rfl, by omega, ?_⟩;rw [if_neg (by simp)];by_cases h5 : zgu l i > p.Value
     ·rw [if_pos h5]; exact .inl (by simp [ownV])
     ·rw [if_neg h5]; exact .inr rfl
    ·rw [if_neg h3];by_cases h4 : m.aV p.Value = 0
     ·rw [if_pos h4]; exact .inl ⟨p.Value, rfl, by simp⟩
     ·rw [if_neg h4];refine .inr ⟨m.aV p.Value, p.Value, rfl, ha.2, ?_⟩;rw [if_neg (by simp)];by_cases h5 : zgu l i > p.Value
      ·rw [if_pos h5];have h6 : ¬ m.aV p.Value = p.Value := by omega
       exact .inr (by simp [ownV, h4, h6])
      ·rw [if_neg h5]; exact .inl rfl
theorem zo1 {m : Mn} {l : List Sg} (hM : ckM m = 0) (hck : ckD m l = 0) {k : Nat} {x : List Int} {c : Int} (hx : (mnsD m l)[k]? = some x) (hc : (zdL m l)[k]? = some c) : zn4 x c := by
 rw [mnsD, List.getElem?_map] at hx;rw [zdL, List.getElem?_map] at hc;cases hd : (y9 l l.length)[k]? with
 | none => simp [hd] at hx
 | some i =>
  simp [hd] at hx hc;obtain ⟨j, s, p, h1, h2, h3, h4, h5⟩ := zmH hck (List.mem_of_getElem? hd);obtain ⟨_, _, q1, q2, _, q3⟩ := zoQ hck h2 h3 h4;unfold mnAt at hx; rw [h5] at hx;unfold zkS at hc; rw [h5] at hc;have hx : mngs m p = x := hx;have hc : zfu m l i p = c := hc;rw [← hx, ← hc, zk7 hM q1 q2 q3, q3];exact zh2 hM q1
theorem zlo (m : Mn) (l : List Sg) : (zdL m l).length = (mnsD m l).length := by
 unfold zdL mnsD; simp
theorem zlp {m : Mn} {l : List Sg} (hM : ckM m = 0) (hg : ckD m l = 0) : ∀ x ∈ (mnsD m l).reverse, Asc x := by
 intro x hx;rw [List.mem_reverse] at hx;obtain ⟨k, hk⟩ := List.mem_iff_getElem?.1 hx;have hlen := zlo m l;obtain ⟨c, hc⟩ : ∃ c, (zdL m l)[k]? = some c := ⟨_, lgg (by have := (List.getElem?_eq_some_iff.1 hk).1; omega)⟩;rcases zo1 hM hg hk hc with ⟨a, rfl, _⟩ | ⟨a, b, rfl, hab, _⟩
 ·exact .inl ⟨a, rfl⟩
 ·exact .inr ⟨a, b, rfl, hab⟩
end Go.Rse
namespace Go.Rse
open Go Go.Proofs
def rP (m : Mn) (l : List Sg) : List (List Int) := List.replicate (prL m l).length [1, 2] ++ (mnsD m l).reverse
theorem zh3 : ∀ P : Nat, cntG (List.replicate P [1, 2]) = 2 ^ P
 | 0 => rfl
 | P + 1 => by
  rw [List.replicate_succ];show 2 * cntG (List.replicate P [1, 2]) = _;rw [zh3 P, Int.pow_succ, Int.mul_comm]
theorem zo2 {m : Mn} {l : List Sg} (hM : ckM m = 0) (hck : ckD m l = 0) : ∀ x ∈ rP m l, Asc x := fun x hx => by
 unfold rP at hx;rcases List.mem_append.1 hx with h | h
 ·obtain ⟨_, rfl⟩ := List.mem_replicate.1 h;exact .inr ⟨1, 2, rfl, by decide⟩
 ·exact zlp hM hck x h
theorem zo3 {m : Mn} {l : List Sg} (h : ictE m l = 0) : ictV m l = cntG (rP m l) := by
 obtain ⟨hck, a, b, q2, q3, hV, h64, hc⟩ := zfD h;unfold rP;rw [zcz, zh3, hV, q3, zn3 a, Int.mul_comm]
theorem zlq {m : Mn} {l : List Sg} (h : ictE m l = 0) {i : Nat} (hi : (i : Int) < ictV m l) : iofE m l (i : Int) = 0 := by
 unfold iofE; rw [if_pos h, if_neg (by omega)]
theorem zjn {m : Mn} {l : List Sg} {n : Int} (h : iofE m l n = 0) : (iofD m l n).length = (mnsD m l).length := by
 unfold iofD; rw [if_pos h, zn2, zjl]; simp
theorem zhe {m : Mn} {l : List Sg} {n : Int} (h : iofE m l n = 0) : (iofM m l n).length = (prL m l).length := by
 unfold iofM; rw [if_pos h, zhN]
theorem zmW (n : Int) (K j : Nat) : mnOk (digP n K j) = true := by
 unfold mnOk digP;rw [List.all_eq_true];intro x hx;obtain ⟨i, _, rfl⟩ := List.mem_map.1 hx;unfold dig;split <;> simp
theorem zlr {m : Mn} {l : List Sg} (hM : ckM m = 0) (hck : ckD m l = 0) {n : Int} (he : iofE m l n = 0) : itmE m l (iofD m l n) (iofM m l n) = 0 := by
 obtain ⟨hE, h0, h1⟩ := zn0 he;obtain ⟨_, a, b, q2, q3, hV, h64, hc⟩ := zfD hE
 have hmk : mkE m l (iofD m l n) = 0 := by
  have hq0 : 0 <= n / 2 ^ (prL m l).length := Int.ediv_nonneg h0 (by have := zbT q2; omega);have hq1 : n / 2 ^ (prL m l).length < cntV m l := Int.ediv_lt_of_lt_mul (by have := zbT q2; omega) (by rw [← q3, ← hV]; exact h1);have h := zqs (zln (zlp hM hck) hq0 (by rw [← zn3 a]; exact hq1));unfold mkE iofD;rw [if_pos hck, if_pos he, zn2, if_pos h]
 have hdu : duE m l (iofM m l n) = 0 := by
  unfold duE;rw [if_pos hck, if_pos ⟨zhe he, by unfold iofM; rw [if_pos he]; exact zmW _ _ _⟩]
 unfold itmE;rw [if_pos hmk, hdu]
theorem zjo {m : Mn} {l : List Sg} (hM : ckM m = 0) (h : ictE m l = 0) : 1 <= ictV m l /\ ictV m l <= 64 := by
 have h0 := zfD h;exact ⟨by rw [zo3 h]; exact zh0 (zo2 hM h0.1), h0.2.2.2.2.2.2.1⟩
theorem zjp (m : Mn) (l : List Sg) : (mnsD m l).length <= l.length := by
 unfold mnsD; rw [List.length_map]; exact zbZ l l.length
end Go.Rse
namespace Go.Rse
open Go Go.Proofs
attribute [local irreducible] Pur yA yC Ex X Fn Imp LeV LeB FnO It yF
theorem zgE {α : Type} {a b : List α} {k : Nat} {x : α} (ha : a[k]? = some x) (hb : b[k]? = some x) (h : a.take k = b.take k) : a.take (k + 1) = b.take (k + 1) := by
 rw [List.take_add_one, List.take_add_one, ha, hb, h]
theorem zjq {α : Type} {a b : List α} {k : Nat} (hl : a.length = b.length) (hk : a.length <= k) (h : a.take k = b.take k) : a = b := by
 rwa [List.take_of_length_le hk, List.take_of_length_le (by omega)] at h
theorem zn5 {α : Type} {a b : List α} {k : Nat} {x y : α} (ha : a[k]? = some x) (hb : b[k]? = some y) (h : x ≠ y) : a ≠ b := fun e => by
 subst e; rw [ha] at hb; injection hb with hb; exact h hb
def mCirc : Mn := ⟨2, 2, 3, 2⟩
attribute [local irreducible] gI
theorem z7 (a b : List Int) (hl : a.length <= 4000000000) : Fn Tryz.prog 38 [yg a, yg b] (.bool (decide (a = b))) := by
 refine Fn.go Tryz.func38 Tryz.ntmps38 (fun g w d => ?_);apply yb;refine ye ?_;apply yd;apply yb;refine zh ?_;refine yl rfl ?_ ?_<;>intro hc1
 ·apply yb;refine ye ?_;refine X.ret ?_;refine yp ?_;all_goals (congr 1; exact (decide_eq_false fun e => by subst e; omega).symm)
 apply yf;apply yd;apply yb;refine ye ?_;apply X.block
 refine zp (ι := Nat) (fun (k : Nat) => [(0, yg a), (1, yg b), (5, iv (k : Int))]) (fun (k : Nat) => []) (fun (k : Nat) => k <= a.length /\ a.take k = b.take k) (fun (k : Nat) => a.length - k) 0 (fun k hk => ?_) (hJ := by
  exact ⟨by omega, rfl⟩)
 obtain ⟨hk1, hk2⟩ := hk;apply yd;apply yb;refine zad ?_;refine yl rfl ?_ ?_<;>intro hc2
 ·obtain ⟨x, hx⟩ : ∃ x, a[k]? = some x := ⟨_, lgg (by omega)⟩;have hx2 : a[(k : Int).toNat]? = some x := by simpa using hx
  obtain ⟨y, hy⟩ : ∃ y, b[k]? = some y := ⟨_, lgg (by omega)⟩;have hy2 : b[(k : Int).toNat]? = some y := by simpa using hy
  apply yf;apply yd;apply X.block;apply yd;refine zI [17,18,19,20,21,22,23,24,25] [0,0,3,7,0,0,48,112,255] mo ?_;iterate 9 refine yk ?_
  refine zf ?_;apply Ex.nil;refine yl rfl ?_ ?_<;>intro hc3
  ·apply yb;refine ye ?_;refine X.ret ?_;refine yp ?_;all_goals (congr 1; exact (decide_eq_false (zn5 hx hy (by simpa using hc3))).symm)
  apply yf;apply yc;refine yu ?_
  refine y2 (k + 1) (hJ := by
   exact ⟨by omega, zgE hx (by rw [hy]; congr 1; first | exact (by simpa using hc3 : x = y).symm | (simp at hc3; exact hc3.symm)) hk2⟩)
 ·apply X.exit;apply yb;refine ye ?_;refine X.ret ?_;refine yp ?_;all_goals (congr 1; exact (decide_eq_true (zjq (by omega) (by omega) hk2)).symm)
theorem zS (a b : List Tm) (hl : a.length <= 4000000000) : Fn Tryz.prog 29 [tmsA a, tmsA b] (.bool (decide (a = b))) := by
 refine Fn.go Tryz.func29 Tryz.ntmps29 (fun g w d => ?_);apply yb;refine ye ?_;apply yd;apply yb;refine zh ?_;refine yl rfl ?_ ?_<;>intro hc1
 ·apply yb;refine ye ?_;refine X.ret ?_;refine yp ?_;all_goals (congr 1; exact (decide_eq_false fun e => by subst e; omega).symm)
 apply yf;apply yd;apply yb;refine ye ?_;apply X.block
 refine zp (ι := Nat) (fun (k : Nat) => [(0, tmsA a), (1, tmsA b), (5, iv (k : Int))]) (fun (k : Nat) => []) (fun (k : Nat) => k <= a.length /\ a.take k = b.take k) (fun (k : Nat) => a.length - k) 0 (fun k hk => ?_) (hJ := by
  exact ⟨by omega, rfl⟩)
 obtain ⟨hk1, hk2⟩ := hk;apply yd;apply yb;refine zad ?_;refine yl rfl ?_ ?_<;>intro hc2
 ·obtain ⟨x, hx⟩ : ∃ x, a[k]? = some x := ⟨_, lgg (by omega)⟩;have hx2 : a[(k : Int).toNat]? = some x := by simpa using hx
  obtain ⟨y, hy⟩ : ∃ y, b[k]? = some y := ⟨_, lgg (by omega)⟩;have hy2 : b[(k : Int).toNat]? = some y := by simpa using hy
  apply yf;apply yd;apply X.block;apply yd;refine zI [17,18,19,20,21,22,23,24,25] [0,0,3,7,0,0,48,112,255] mo ?_;iterate 9 refine yk ?_
  refine zf ?_;apply Ex.nil;refine yl rfl ?_ ?_<;>intro hc3
  ·apply yb;refine ye ?_;refine X.ret ?_;refine yp ?_;all_goals (congr 1; exact (decide_eq_false (zn5 hx hy (by simpa using hc3))).symm)
  apply yf;apply yc;refine yu ?_
  refine y2 (k + 1) (hJ := by
   exact ⟨by omega, zgE hx (by rw [hy]; congr 1; first | exact (by simpa using hc3 : x = y).symm | (simp at hc3; exact hc3.symm)) hk2⟩)
 ·apply X.exit;apply yb;refine ye ?_;refine X.ret ?_;refine yp ?_;all_goals (congr 1; exact (decide_eq_true (zjq (by omega) (by omega) hk2)).symm)
end Go.Rse
namespace Go.Rse
open Go Go.Proofs
end Go.Rse
namespace Go.Rse
open Go Go.Proofs
end Go.Rse
namespace Go.Rse
open Go Go.Proofs
end Go.Rse
