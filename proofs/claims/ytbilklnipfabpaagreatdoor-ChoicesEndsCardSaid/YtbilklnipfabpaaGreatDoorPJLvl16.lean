/-
  Allowed and Apply: one contract for all inputs.
-/
import Derived.Test.YtbilklnipfabpaaGreatDoorPJLvl12
import Derived.Test.YtbilklnipfabpaaGreatDoorPJLvl3
import Derived.Test.YtbilklnipfabpaaGreatDoorPJDurs2
import Derived.Test.YtbilklnipfabpaaGreatDoorPJColor4
import Derived.Test.YtbilklnipfabpaaGreatDoorPDot9
import Derived.Test.YtbilklnipfabpaaGreatDoorPJFull1
set_option linter.unusedSimpArgs false
set_option linter.unusedVariables false
namespace Go.Rse
open Go Go.Proofs
attribute [local irreducible] Pur yx yz Ex X Fn Imp LeV LeB FnO It yC FnW FnOW
theorem zou (n d : Int) : 0 <= (tmkT n d).N := by
 unfold tmkT;split
 ·rename_i h;unfold tmkE at h;split at h
  ·cases h
  ·refine Int.ediv_nonneg (by omega) ?_;unfold gI; omega
 ·exact Int.le_refl _
theorem zqY (u : Tm) (l : List Ite) (s : Sgm) : 0 <= (cnV u l s).N := by
 unfold cnV;split
 ·unfold divV;split
  ·split
   ·exact Int.le_refl _
   ·unfold tmsV;split
    ·exact Int.le_refl _
    ·exact zou _ _
  ·exact Int.le_refl _
 ·exact Int.le_refl _
theorem zhZ (m : Mn) (k : Int) (l : List Ite) : ∀ s ∈ segV m k l, 0 <= s.Count.N := by
 unfold segV;split
 ·intro s hs;obtain ⟨t, ht, rfl⟩ := List.mem_map.1 hs;exact zqY _ _ _
 ·intro s hs; cases hs
section
variable {m : Mn} {k : Int} {l : List Ite} {M : List Int}
theorem zub (h : ¬ segE m k l = 0) : alE m k l M = segE m k l /\ alV m k l M = [] := by
 have : alE m k l M = segE m k l := by unfold alE; rw [if_neg h]
 refine ⟨this, ?_⟩; unfold alV; rw [this, if_neg h]
theorem zsG (h : segE m k l = 0) (h2 : (segV m k l).length <= M.length \/ okJ (unT m k) k (segV m k l) l M M.length = false) : alE m k l M = 2 /\ alV m k l M = [] := by
 have : alE m k l M = 2 := by unfold alE; rw [if_pos h, if_pos h2]
 refine ⟨this, ?_⟩; unfold alV; rw [this, if_neg (by decide)]
theorem zuc (h : segE m k l = 0) (h2 : ¬ ((segV m k l).length <= M.length \/ okJ (unT m k) k (segV m k l) l M M.length = false)) : alE m k l M = 0 /\ alV m k l M = alK (unT m k) k (segV m k l) l M M.length := by
 have : alE m k l M = 0 := by unfold alE; rw [if_pos h, if_neg h2]
 refine ⟨this, ?_⟩; unfold alV; rw [if_pos this]
theorem zud (h : ¬ segE m k l = 0) : apE m k l M = segE m k l /\ apV m k l M = [] := by
 have : apE m k l M = segE m k l := by unfold apE; rw [if_neg h]
 refine ⟨this, ?_⟩; unfold apV; rw [this, if_neg h]
theorem zsH (h : segE m k l = 0) (h2 : ¬ (segV m k l).length = M.length \/ okJ (unT m k) k (segV m k l) l M M.length = false) : apE m k l M = 2 /\ apV m k l M = [] := by
 have : apE m k l M = 2 := by unfold apE; rw [if_pos h, if_pos h2]
 refine ⟨this, ?_⟩; unfold apV; rw [this, if_neg (by decide)]
theorem zue (h : segE m k l = 0) (h2 : ¬ (¬ (segV m k l).length = M.length \/ okJ (unT m k) k (segV m k l) l M M.length = false)) : apE m k l M = 0 /\ apV m k l M = (stK (unT m k) (segV m k l) l M M.length).1 := by
 have : apE m k l M = 0 := by unfold apE; rw [if_pos h, if_neg h2]
 refine ⟨this, ?_⟩; unfold apV; rw [if_pos this]
end
theorem zfm (m : Mn) (k : Int) (l : List Ite) (M : List Int) (h0 : -9223372036854775808 <= k) (h1 : k <= 9223372036854775807) (hl : l.length <= 1000000) (hM : M.length <= 4000000) : Fn Tryz.prog 162 [mnA m, iv k, itsA l, yg M] (.tup [yg (alV m k l M), iv (alE m k l M)]) := by
 by_cases hE : segE m k l = 0
 ·by_cases hX : (segV m k l).length <= M.length
  ·obtain ⟨e1, e2⟩ := zsG hE (.inl hX); rw [e1, e2];exact zec m k l M h0 h1 hl hM hE (by simpa using hX)
  ·by_cases hO : okJ (unT m k) k (segV m k l) l M M.length = false
   ·obtain ⟨e1, e2⟩ := zsG hE (.inr hO); rw [e1, e2];exact zed m k l M h0 h1 hl hM hE (by simp; omega) (hok := hO) (hN := zhZ m k l) (hMS := by omega)
   ·obtain ⟨e1, e2⟩ := zuc hE (fun h => h.elim hX hO); rw [e1, e2];exact zee m k l M h0 h1 hl hM hE (by simp; omega) (hok := by simpa using hO) (hN := zhZ m k l) (hMS := by omega)
 ·obtain ⟨e1, e2⟩ := zub (M := M) hE; rw [e1, e2];exact zeb m k l M h0 h1 hl hM hE
theorem zdv (m : Mn) (k : Int) (l : List Ite) (M : List Int) (h0 : -9223372036854775808 <= k) (h1 : k <= 9223372036854775807) (hl : l.length <= 1000000) (hM : M.length <= 4000000) : Fn Tryz.prog 48 [mnA m, iv k, itsA l, yg M] (.tup [itsA (apV m k l M), iv (apE m k l M)]) := by
 by_cases hE : segE m k l = 0
 ·by_cases hX : (segV m k l).length = M.length
  ·by_cases hO : okJ (unT m k) k (segV m k l) l M M.length = false
   ·obtain ⟨e1, e2⟩ := zsH hE (.inr hO); rw [e1, e2];exact zfk m k l M h0 h1 hl hM hE (by simp; omega) (hok := hO) (hN := zhZ m k l) (hMS := by omega)
   ·obtain ⟨e1, e2⟩ := zue hE (fun h => h.elim (fun g => g hX) hO); rw [e1, e2];exact zfl m k l M h0 h1 hl hM hE (by simp; omega) (hok := by simpa using hO) (hN := zhZ m k l) (hMS := by omega)
  ·obtain ⟨e1, e2⟩ := zsH hE (.inl hX); rw [e1, e2];exact zfj m k l M h0 h1 hl hM hE (by simp; omega)
 ·obtain ⟨e1, e2⟩ := zud (M := M) hE; rw [e1, e2];exact zfi m k l M h0 h1 hl hM hE
end Go.Rse
namespace Go.Rse
open Go Go.Proofs
section
variable {u : Tm} {k : Int} {S : List Sgm} {l : List Ite}
theorem zkw (M M2 : List Int) : ∀ n, n <= M.length -> stK u S l (M ++ M2) n = stK u S l M n
 | 0, _ => rfl
 | n + 1, h => by
  rw [ziN, ziN, zkw M M2 n (by omega)]
  have : (M ++ M2).getD n 0 = M.getD n 0 := by
   rw [List.getD_eq_getElem?_getD, List.getD_eq_getElem?_getD, List.getElem?_append_left (by omega)]
  rw [this]
theorem zh0 (M M2 : List Int) {n : Nat} (h : n <= M.length) : alK u k S l (M ++ M2) n = alK u k S l M n := by
 unfold alK; rw [zkw M M2 n h]
theorem zh1 (M M2 : List Int) : ∀ n, n <= M.length -> okJ u k S l (M ++ M2) n = okJ u k S l M n
 | 0, _ => rfl
 | n + 1, h => by
  show (okJ u k S l (M ++ M2) n && decide ((M ++ M2).getD n 0 ∈ alK u k S l (M ++ M2) n)) = (okJ u k S l M n && decide (M.getD n 0 ∈ alK u k S l M n));rw [zh1 M M2 n (by omega), zh0 M M2 (by omega)]
  have : (M ++ M2).getD n 0 = M.getD n 0 := by
   rw [List.getD_eq_getElem?_getD, List.getD_eq_getElem?_getD, List.getElem?_append_left (by omega)]
  rw [this]
end
structure Rdg where
 Dots : List Int
 Minor : List Int
 Choices : List Int
 Durs : List Tm
 deriving DecidableEq
def rdgE (r : Rdg) : List AV := [yg r.Dots, yg r.Minor, yg r.Choices, tmsA r.Durs]
abbrev rdgA (r : Rdg) : AV := .agg (rdgE r)
end Go.Rse
namespace Go.Rse
open Go Go.Proofs
section
variable {m : Mn} {k : Int} {l : List Ite} {n : Nat}
end
theorem zov (u : Tm) (k : Int) (S : List Sgm) (l : List Ite) (M : List Int) (n : Nat) : (alK u k S l M n).length <= 5 := by
 unfold alK alQ alR;simp only [List.length_append];have h : ∀ (p : Prop) [Decidable p] (x : Int), (if p then [x] else []).length <= 1 := fun p _ x => by split <;> simp
 have a1 := h;refine Nat.le_trans (Nat.add_le_add (Nat.add_le_add (Nat.add_le_add (Nat.add_le_add (h _ _) (h _ _)) (h _ _)) (h _ _)) (h _ _)) (by omega)
end Go.Rse
namespace Go.Rse
open Go Go.Proofs
theorem zkx {m : Mn} {k : Int} {l : List Ite} {M : List Int} (h : apE m k l M = 0) : (apV m k l M).length = l.length := by
 unfold apV; rw [if_pos h]; exact zdh _ _ _ _ _
section
variable {m : Mn} {l : List Ite} {n : Nat} {k : Int}
theorem zh2 (m : Mn) : (perfL m).length <= 4 := by
 unfold perfL; exact List.length_filter_le _ _
theorem zmF (hk : (perfL m)[n]? = some k) : 1 <= k /\ k <= 4 := by
 have h := List.mem_of_getElem? hk;rw [zeH] at h; exact ⟨h.1, h.2.1⟩
end
end Go.Rse
namespace Go.Rse
open Go Go.Proofs
def ictE (m : Mn) (l : List Sg) : Int := if cntE m l = 0 then (if colE m l = 0 then (if 64 < cntV m l * colN m l then 15 else 0) else colE m l) else cntE m l
def ictV (m : Mn) (l : List Sg) : Int := if ictE m l = 0 then cntV m l * colN m l else 0
theorem zsI {m : Mn} {l : List Sg} (h : ¬ ckD m l = 0) : ictE m l = ckD m l /\ ictV m l = 0 := by
 have e : cntE m l = ckD m l := by unfold cntE; rw [if_neg h]
 have e2 : ictE m l = ckD m l := by unfold ictE; rw [e, if_neg h]
 exact ⟨e2, by unfold ictV; rw [e2, if_neg h]⟩
theorem zgc {m : Mn} {l : List Sg} (h : ictE m l = 0) : ckD m l = 0 /\ cntE m l = 0 /\ colE m l = 0 /\ (prL m l).length <= 6 /\ colN m l = 2 ^ (prL m l).length /\ ictV m l = cntV m l * colN m l /\ ictV m l <= 64 /\ 1 <= cntV m l := by
 have hck : ckD m l = 0 := by
  apply Classical.byContradiction; intro hn;rw [(zsI hn).1] at h; exact hn h
 have hV : ictV m l = cntV m l * colN m l := by unfold ictV; rw [if_pos h]
 unfold ictE at h;split at h
 ·next a =>
  split at h
  ·next b =>
   split at h
   ·omega
   ·next c =>
    obtain ⟨q1, q2, q3⟩ := zlV b;refine ⟨hck, a, b, q2, q3, hV, by omega, ?_⟩;have e2 : cntV m l = if cntF 1 (mnsD m l) > 64 then 0 else cntF 1 (mnsD m l) := by unfold cntV; rw [if_pos hck]
    have hp := zfZ (L := mnsD m l) (n := 1) (fun x hx => zf0 hck hx) (by omega) (by omega);unfold cntE at a; rw [if_pos hck] at a;split at a
    ·omega
    ·next d => rw [e2, if_neg d]; exact hp
  ·next b => exact absurd h b
 ·next a => exact absurd h a
def dgL : Int -> List Int -> List Int × Int
 | n, [] => ([], n)
 | n, b :: r => ((dgL n r).2 % b :: (dgL n r).1, (dgL n r).2 / b)
theorem zmG : ∀ {l : List Int} {n : Int}, 0 <= n -> (∀ x ∈ l, 1 <= x) -> 0 <= (dgL n l).2 /\ (dgL n l).2 <= n
 | [], n, h, _ => ⟨h, Int.le_refl _⟩
 | b :: r, n, h, hl => by
  obtain ⟨a, c⟩ := zmG (l := r) h (fun y hy => hl y (by simp [hy]));have hb := hl b (by simp);exact ⟨Int.ediv_nonneg a (by omega), Int.le_trans (Int.ediv_le_self _ a) c⟩
theorem zky : ∀ (l : List Int) (n : Int), (dgL n l).1.length = l.length
 | [], n => rfl
 | b :: r, n => by simp [dgL, zky r n]
def iofE (m : Mn) (l : List Sg) (n : Int) : Int := if ictE m l = 0 then (if n < 0 \/ ictV m l <= n then 2 else 0) else ictE m l
def iofD (m : Mn) (l : List Sg) (n : Int) : List Int := if iofE m l n = 0 then ofD (mnsD m l) (n / 2 ^ (prL m l).length) else []
def iofM (m : Mn) (l : List Sg) (n : Int) : List Int := if iofE m l n = 0 then digP n (prL m l).length (prL m l).length else []
theorem zpK {m : Mn} {l : List Sg} {n : Int} (h : iofE m l n = 0) : ictE m l = 0 /\ 0 <= n /\ n < ictV m l := by
 unfold iofE at h;split at h
 ·next a =>
  split at h
  ·omega
  ·next b => exact ⟨a, by omega, by omega⟩
 ·next a => exact absurd h a
theorem zmH {m : Mn} {l : List Sg} {n : Int} (h : ¬ iofE m l n = 0) : iofD m l n = [] := by unfold iofD; rw [if_neg h]
theorem zmI {m : Mn} {l : List Sg} {n : Int} (h : ¬ iofE m l n = 0) : iofM m l n = [] := by unfold iofM; rw [if_neg h]
theorem zow : ∀ n : Fin 64, ∀ K : Fin 7, ∀ j : Fin 7, j.val < K.val -> ((n.val : Int) % 2 ^ K.val) / 2 ^ (K.val - 1 - j.val) % 2 = (n.val : Int) / 2 ^ (K.val - 1 - j.val) % 2 := by decide +kernel
theorem zox {n : Int} {K : Nat} (h0 : 0 <= n) (h1 : n < 64) (hK : K <= 6) : digP (n % 2 ^ K) K K = digP n K K := by
 unfold digP;refine List.map_congr_left fun j hj => ?_
 have hj := List.mem_range.1 hj;unfold dig;have := zow ⟨n.toNat, by omega⟩ ⟨K, by omega⟩ ⟨j, by omega⟩ hj;simp only at this;rw [show ((n.toNat : Nat) : Int) = n by omega] at this;rw [this]
theorem zmJ {m : Mn} {l : List Sg} {n : Int} (h : iofE m l n = 0) :
 ofE m l (n / colN m l % cntV m l) = 0 /\ ofL m l (n / colN m l % cntV m l) = iofD m l n /\ cfE m l (n % colN m l) = 0 /\ cfV m l (n % colN m l) = iofM m l n := by
 obtain ⟨hE, h0, h1⟩ := zpK h;obtain ⟨hck, a, b, q2, q3, hV, h64, hc⟩ := zgc hE;have hb := zbX q2;rw [← q3] at hb;have hq0 : 0 <= n / colN m l := Int.ediv_nonneg h0 (by omega);have hq1 : n / colN m l < cntV m l := Int.ediv_lt_of_lt_mul (by omega) (by rw [← hV]; exact h1);have hr0 : 0 <= n % colN m l := Int.emod_nonneg _ (by omega);have hr1 : n % colN m l < colN m l := Int.emod_lt_of_pos _ (by omega);have e0 : n / colN m l % cntV m l = n / colN m l := Int.emod_eq_of_lt hq0 hq1;rw [e0];have e1 : ofE m l (n / colN m l) = 0 := by unfold ofE; rw [if_pos a, if_neg (by omega)]
 have e2 : cfE m l (n % colN m l) = 0 := by unfold cfE; rw [if_pos b, if_neg (by omega)]
 refine ⟨e1, ?_, e2, ?_⟩
 ·unfold ofL iofD; rw [if_pos e1, if_pos h, q3]
 ·unfold cfV iofM; rw [if_pos b, if_neg (by omega), if_pos h, q3]; exact zox h0 (by omega) q2
section
variable {m : Mn} {l : List Sg}
end
end Go.Rse
namespace Go.Rse
open Go Go.Proofs
theorem zgd {l : List Sg} {c : List Int} {a : List Bool} {d : List Tm} : ∀ (n : Nat) {i : Nat} {x : Ite}, (itK l c a d n)[i]? = some x -> ∃ (k : Nat) (s : Sg), k < n /\ l[k]? = some s /\ ¬ s.Kind = 3 /\ ntN l k = i /\ x = itOf k s (c.getD i 0) (a.getD i false) (d.getD i ⟨0, 0⟩)
 | 0, i, x, h => by simp [itK] at h
 | n + 1, i, x, h => by
  cases hs : l[n]? with
  | none =>
   simp only [itK, hs] at h;obtain ⟨k, s, h1, h2⟩ := zgd n h;exact ⟨k, s, by omega, h2⟩
  | some s =>
   by_cases hK : s.Kind = 3
   ·rw [← zhO hs hK] at h;obtain ⟨k, s, h1, h2⟩ := zgd n h;exact ⟨k, s, by omega, h2⟩
   ·simp only [itK, hs, if_neg hK] at h;rw [List.getElem?_append] at h;split at h
    ·obtain ⟨k, s, h1, h2⟩ := zgd n h;exact ⟨k, s, by omega, h2⟩
    ·rename_i hi;have hlt := (List.getElem?_eq_some_iff.1 h).1;rw [zf1] at hi hlt h;have e : i = ntN l n := by simp at hlt; omega
     subst e;simp at h;exact ⟨n, s, by omega, hs, hK, rfl, h.symm⟩
theorem zpL {l : List Sg} {k j : Nat} (h : ntN l j < ntN l k) : j < k := by
 rcases Nat.lt_or_ge j k with h1 | h1
 ·exact h1
 ·have := zd4 l j k h1; omega
def zJ (ch : List Int) (l : List Sg) (n k : Nat) : Int × Bool := match l[k + 1]? with
 | some z => if k + 1 < n /\ z.Kind = 3 then (ch.getD (yT l (k + 1)).length 0, decide (ch.getD (yT l (k + 1)).length 0 = 0)) else (0, false)
 | none => (0, false)
theorem zdi {l : List Sg} {k j : Nat} {s : Sg} (hs : l[k]? = some s) (h : ¬ s.Kind = 3) (hkj : k < j) : ntN l k < ntN l j := by
 have := zd4 l j (k + 1) hkj;rw [zdC hs h] at this; omega
theorem zmK {ch : List Int} {l : List Sg} (hD : ∀ (i : Nat) z, l[i]? = some z -> z.Kind = 3 -> ∃ (j : Nat) (p : Sg), i = j + 1 /\ l[j]? = some p /\ ¬ p.Kind = 3) :
 ∀ (n k : Nat) (s : Sg), k < n -> l[k]? = some s -> ¬ s.Kind = 3 -> (mkK ch l n).1[ntN l k]? = some (zJ ch l n k).1 /\ (mkK ch l n).2.1[ntN l k]? = some (zJ ch l n k).2
 | 0, k, s, h, _, _ => by omega
 | n + 1, k, s, hk, hs, h3 => by
  have ih := zmK (ch := ch) hD n k s;have hl1 := zhM ch l n;have hl2 := (zdW ch l n).1;have hl3 := (zdW ch l n).2.2
  have same : ∀ (hne : ¬ (k + 1 = n /\ ∃ z, l[n]? = some z /\ z.Kind = 3)), k < n -> zJ ch l (n + 1) k = zJ ch l n k := fun hne hkn => by
   unfold zJ;cases hz : l[k + 1]? with
   | none => rfl
   | some z =>
    simp only;by_cases h1 : k + 1 < n /\ z.Kind = 3
    ·rw [if_pos h1, if_pos ⟨by omega, h1.2⟩]
    ·rw [if_neg h1, if_neg]
     rintro ⟨h2, h4⟩
     have e : k + 1 = n := Classical.byContradiction fun hn => h1 ⟨by omega, h4⟩
     exact hne ⟨e, z, by rw [← e]; exact hz, h4⟩
  cases hz : l[n]? with
  | none =>
   have hkn : k < n := by
    have h1 := (List.getElem?_eq_some_iff.1 hs).1;have h2 := List.getElem?_eq_none_iff.1 hz;omega
   have e : mkK ch l (n + 1) = mkK ch l n := by simp only [mkK, hz]
   rw [e, same (fun x => by obtain ⟨_, z, h1, _⟩ := x; rw [hz] at h1; cases h1) hkn];exact ih hkn hs h3
  | some z =>
   by_cases hK : z.Kind = 3
   ·obtain ⟨j, p, hj, hp, hp3⟩ := hD n z hz hK;subst hj
    have hkn : k < j + 1 := by
     rcases Nat.lt_or_ge k (j + 1) with h1 | h1
     ·exact h1
     ·have : k = j + 1 := by omega
      subst this; rw [hz] at hs; injection hs with hs; subst hs; exact absurd hK h3
    have hnj : ntN l (j + 1) = ntN l j + 1 := zdC hp hp3;obtain ⟨i1, i2⟩ := ih hkn hs h3;rw [zdV hz hK];have e1 : (((mkK ch l (j + 1)).1.length : Int) - 1).toNat = ntN l j := by omega
    have e2 : (((mkK ch l (j + 1)).2.1.length : Int) - 1).toNat = ntN l j := by omega
    rw [e1, e2];by_cases hkj : k = j
    ·subst hkj
     have ea : zJ ch l (k + 1 + 1) k = (ch.getD (yT l (k + 1)).length 0, decide (ch.getD (yT l (k + 1)).length 0 = 0)) := by
      unfold zJ; rw [hz]; simp only; rw [if_pos ⟨by omega, hK⟩]
     rw [ea, hl3];constructor
     ·rw [List.getElem?_set_self (by omega)]
     ·rw [List.getElem?_set_self (by omega)]
    ·have hne : ntN l j ≠ ntN l k := by have := zdi hs h3 (show k < j by omega); omega
     rw [same (fun x => by omega) hkn, List.getElem?_set_ne hne, List.getElem?_set_ne hne];exact ⟨i1, i2⟩
   ·rw [zcz hz hK];by_cases hkn : k < n
    ·obtain ⟨i1, i2⟩ := ih hkn hs h3;rw [same (fun x => by obtain ⟨_, z', h1, h2⟩ := x; rw [hz] at h1; injection h1 with h1; subst h1; exact hK h2) hkn];have g1 := (List.getElem?_eq_some_iff.1 i1).1;have g2 := (List.getElem?_eq_some_iff.1 i2).1;exact ⟨by rw [List.getElem?_append_left g1]; exact i1, by rw [List.getElem?_append_left g2]; exact i2⟩
    ·have e : k = n := by omega
     subst e
     have ea : zJ ch l (k + 1) k = (0, false) := by
      unfold zJ;cases l[k + 1]? with
      | none => rfl
      | some z' => simp only; rw [if_neg (by omega)]
     rw [ea];constructor
     ·show ((mkK ch l k).1 ++ [0])[ntN l k]? = some 0;rw [← hl1]; simp
     ·show ((mkK ch l k).2.1 ++ [false])[ntN l k]? = some false;rw [← hl1, hl2]; simp
end Go.Rse
namespace Go.Rse
open Go Go.Proofs
theorem ziR {l : List Sg} {k : Nat} {s : Sg} (hs : l[k]? = some s) (h3 : s.Kind = 3) : ∀ n, k < n -> (yT l n)[(yT l k).length]? = some (k : Int)
 | 0, h => by omega
 | n + 1, h => by
  rcases Nat.lt_or_ge k n with h1 | h1
  ·have ih := ziR hs h3 n h1;have hl := (List.getElem?_eq_some_iff.1 ih).1;rw [yT, List.getElem?_append, if_pos hl]; exact ih
  ·have : k = n := by omega
   subst this;rw [yT, List.getElem?_append, if_neg (by omega)];simp [hs, h3]
def zpM (m : Mn) (v : Int) : Bool := decide (1 <= (fullT m v).N) && decide (1 <= (durT m v).N) && decide (1 <= (mulV (fullT m v) ⟨3, 2⟩).N) && decide (1 <= (mulV (durT m v) ⟨3, 2⟩).N)
theorem zlq : zeY zpM = true := by kernel_rfl
theorem zoy {m : Mn} {s : Sg} {z : Tm} (hm : ckM m = 0) (h1 : 1 <= s.Value) (h8 : s.Value <= 8) (hz : z = bsT m s \/ z = ⟨3, 2⟩ \/ z = ⟨1, 2⟩) : 1 <= z.N /\ 1 <= (mulV z ⟨3, 2⟩).N := by
 have h := zbh zlq hm h1 h8;unfold zpM at h;simp only [Bool.and_eq_true, decide_eq_true_eq] at h;rcases hz with rfl | rfl | rfl
 ·unfold bsT; split
  ·exact ⟨h.1.1.2, h.2⟩
  ·exact ⟨h.1.1.1, h.1.2⟩
 ·exact ⟨by decide, by decide +kernel⟩
 ·exact ⟨by decide, by decide +kernel⟩
theorem zmL {m : Mn} {l : List Sg} {ch : List Int} (h : mkE m l ch = 0) : (mnsD m l).length = ch.length /\ chOk ch (mnsD m l) := by
 have hck := zf2 h;unfold mkE at h;rw [if_pos hck] at h;split at h
 ·assumption
 ·cases h
end Go.Rse
namespace Go.Rse
open Go Go.Proofs
def ofG : List (List Int) -> Int -> List Int
 | [], _ => []
 | x :: R, n => ofG R (n / (x.length : Int)) ++ [x.getD (n % (x.length : Int)).toNat 0]
def cntG : List (List Int) -> Int
 | [] => 1
 | x :: R => (x.length : Int) * cntG R
theorem zkz : ∀ (R : List (List Int)) (n : Int), (ofG R n).length = R.length
 | [], _ => rfl
 | x :: R, n => by simp [ofG, zkz R]
def Asc (x : List Int) : Prop := (∃ a, x = [a]) \/ (∃ a b, x = [a, b] /\ a < b)
theorem Asc.len {x : List Int} (h : Asc x) : x.length = 1 \/ x.length = 2 := by
 rcases h with ⟨a, rfl⟩ | ⟨a, b, rfl, _⟩
 ·exact .inl rfl
 ·exact .inr rfl
theorem ziS : ∀ {R : List (List Int)}, (∀ x ∈ R, Asc x) -> 1 <= cntG R
 | [], _ => by simp [cntG]
 | x :: R, h => by
  have h1 := (h x (by simp)).len;have h2 := ziS (R := R) fun y hy => h y (by simp [hy])
  simp only [cntG];rcases h1 with e | e <;> rw [e] <;> omega
inductive ChG : List (List Int) -> List Int -> Prop
 | nil : ChG [] []
 | snoc {x : List Int} {R : List (List Int)} {r : List Int} {v : Int} (hv : v ∈ x) (h : ChG R r) : ChG (x :: R) (r ++ [v])
theorem zmM : ∀ {R : List (List Int)}, (∀ x ∈ R, Asc x) -> ∀ {n : Int}, 0 <= n -> n < cntG R -> ChG R (ofG R n)
 | [], _, n, _, _ => .nil
 | x :: R, h, n, h0, h1 => by
  have hR : ∀ y ∈ R, Asc y := fun y hy => h y (by simp [hy])
  simp only [cntG] at h1;simp only [ofG];have hl := (h x (by simp)).len;have hm0 : 0 <= n % (x.length : Int) := Int.emod_nonneg _ (by omega);have hm1 : n % (x.length : Int) < (x.length : Int) := Int.emod_lt_of_pos _ (by omega);refine .snoc ?_ (zmM hR (Int.ediv_nonneg h0 (by omega)) (Int.ediv_lt_of_lt_mul (by omega) (by rw [Int.mul_comm]; exact h1)));rw [List.getD_eq_getElem?_getD, lgg (by omega)];exact List.getElem_mem _
theorem zoz {R : List (List Int)} {r : List Int} (hc : ChG R r) : (∀ x ∈ R, Asc x) -> ∃ n : Int, 0 <= n /\ n < cntG R /\ ofG R n = r := by
 induction hc with
 | nil => exact fun _ => ⟨0, by omega, by simp [cntG], rfl⟩
 | @snoc x R r v hv _ ih =>
  intro h;have hR : ∀ y ∈ R, Asc y := fun y hy => h y (by simp [hy])
  obtain ⟨n, h0, h1, h2⟩ := ih hR;rcases h x (by simp) with ⟨a, rfl⟩ | ⟨a, b, rfl, hab⟩
  ·refine ⟨n, h0, by simp only [cntG, List.length_cons, List.length_nil]; omega, ?_⟩;simp only [ofG, List.length_cons, List.length_nil];have e1 : n / ((0 + 1 : Nat) : Int) = n := by omega
   have e2 : (n % ((0 + 1 : Nat) : Int)).toNat = 0 := by omega
   rw [e1, e2, h2];simp at hv; subst hv; rfl
  ·simp at hv;rcases hv with rfl | rfl
   ·refine ⟨2 * n, by omega, by simp only [cntG, List.length_cons, List.length_nil]; omega, ?_⟩;simp only [ofG, List.length_cons, List.length_nil];have e1 : 2 * n / ((0 + 1 + 1 : Nat) : Int) = n := by omega
    have e2 : (2 * n % ((0 + 1 + 1 : Nat) : Int)).toNat = 0 := by omega
    rw [e1, e2, h2]; rfl
   ·refine ⟨2 * n + 1, by omega, by simp only [cntG, List.length_cons, List.length_nil]; omega, ?_⟩;simp only [ofG, List.length_cons, List.length_nil];have e1 : (2 * n + 1) / ((0 + 1 + 1 : Nat) : Int) = n := by omega
    have e2 : ((2 * n + 1) % ((0 + 1 + 1 : Nat) : Int)).toNat = 1 := by omega
    rw [e1, e2, h2]; rfl
theorem zkA (L : List (List Int)) (n : Int) : ∀ (d j : Nat), j + d = L.length -> zax L n L.length = ofG (L.take d).reverse (ofN L n j) ++ zax L n j
 | 0, j, h => by
  have : j = L.length := by omega
  subst this; simp [ofG]
 | d + 1, j, h => by
  have hd : L[d]? = some L[d] := lgg (by omega)
  have hg : L.getD (L.length - 1 - j) [] = L[d] := by
   rw [show L.length - 1 - j = d by omega, List.getD_eq_getElem?_getD, hd]; rfl
  rw [zkA L n d (j + 1) (by omega), List.take_add_one, hd];simp only [Option.toList_some, List.reverse_append, List.reverse_cons, List.reverse_nil, List.nil_append, List.cons_append, ofG, zax, ofN, ofV, hg, List.append_assoc]
theorem zmN (L : List (List Int)) (n : Int) : ofD L n = ofG L.reverse n := by
 have := zkA L n L.length 0 (by omega);rw [List.take_length] at this;simpa [ofD, zax, ofN] using this
theorem zcK : ∀ (A B : List (List Int)), cntG (A ++ B) = cntG A * cntG B
 | [], B => by simp [cntG]
 | x :: A, B => by simp only [List.cons_append, cntG, zcK A B, Int.mul_assoc]
theorem ziT : ∀ (L : List (List Int)), cntG L.reverse = cntG L
 | [] => rfl
 | x :: L => by
  rw [List.reverse_cons, zcK, ziT L];simp only [cntG, Int.mul_one]; exact Int.mul_comm _ _
theorem zg9 : ∀ {L : List (List Int)} {n : Int}, cntF n L <= 64 -> cntF n L = n * cntG L
 | [], n, h => by simp [cntF, cntG]
 | x :: L, n, h => by
  unfold cntF at h ⊢;split at h
  ·omega
  ·rename_i h1;rw [if_neg h1, zg9 h];simp only [cntG, Int.mul_assoc]
theorem zpN {m : Mn} {l : List Sg} (h : cntE m l = 0) : cntV m l = cntG (mnsD m l).reverse := by
 have hc := zkj h;unfold cntE at h;rw [if_pos hc] at h;unfold cntV;rw [if_pos hc];by_cases h1 : cntF 1 (mnsD m l) > 64
 ·rw [if_pos h1] at h; simp at h
 ·rw [if_neg h1, ziT, zg9 (by omega), Int.one_mul]
theorem zpO {L : List (List Int)} {c : List Int} (hl : L.length = c.length) (h : ∀ (i : Nat) x v, L[i]? = some x -> c[i]? = some v -> v ∈ x) : ∀ k, k <= L.length -> ChG (L.take k).reverse (c.take k)
 | 0, _ => by simpa using ChG.nil
 | k + 1, hk => by
  have hx : L[k]? = some L[k] := lgg (by omega);have hv : c[k]? = some c[k] := lgg (by omega);rw [List.take_add_one, List.take_add_one, hx, hv];simp only [Option.toList_some, List.reverse_append, List.reverse_cons, List.reverse_nil, List.nil_append, List.cons_append];exact .snoc (h k _ _ hx hv) (zpO hl h k (by omega))
theorem zqZ {R : List (List Int)} {r : List Int} (hc : ChG R r) : r.length = R.length /\ ∀ (i : Nat) x v, R.reverse[i]? = some x -> r[i]? = some v -> v ∈ x := by
 induction hc with
 | nil => exact ⟨rfl, fun i x v h => by simp at h⟩
 | @snoc x0 R r v0 hv _ ih =>
  refine ⟨by simp [ih.1], fun i x v hx hvv => ?_⟩;rw [List.reverse_cons, List.getElem?_append] at hx;rw [List.getElem?_append] at hvv;simp only [List.length_reverse] at hx;by_cases hi : i < R.length
  ·rw [if_pos hi] at hx;rw [if_pos (by omega)] at hvv;exact ih.2 i x v hx hvv
  ·rw [if_neg hi] at hx;rw [if_neg (by omega)] at hvv
   have e1 : i - R.length = 0 := by
    have := (List.getElem?_eq_some_iff.1 hx).1;simp at this; omega
   rw [e1] at hx;rw [ih.1, e1] at hvv;simp at hx hvv;subst hx; subst hvv; exact hv
theorem zsJ {L : List (List Int)} {r : List Int} (hc : ChG L.reverse r) : L.length = r.length /\ chOk r L := by
 obtain ⟨h1, h2⟩ := zqZ hc;rw [List.reverse_reverse] at h2;exact ⟨by simpa using h1.symm, zcA.2 h2⟩
def zpP (x : List Int) (c : Int) : Prop := (∃ a, x = [a] /\ c = a) \/ (∃ a b, x = [a, b] /\ a < b /\ (c = a \/ c = b))
theorem ziU {m : Mn} {l : List Sg} {i : Int} {p : Sg} (hM : ckM m = 0) (h1 : 1 <= p.Value) : zpP (mngR m p) (zfu m l i p) := by
 have ha := zhQ (m := m) h1;unfold zfu mngR;by_cases hK : p.Kind = 2
 ·simp only [hK, if_true]; exact .inl ⟨_, rfl, by simp⟩
 ·simp only [hK, if_false];by_cases hC : p.Color = true
  ·simp only [hC, if_true]; exact .inl ⟨0, rfl, by simp⟩
  ·simp only [hC, if_false];by_cases h2 : m.p p.Value = 2 /\ m.aV p.Value = 0
   ·simp only [h2, and_self, if_true]; exact .inl ⟨0, rfl, by simp⟩
   ·rw [if_neg h2];by_cases h3 : m.p p.Value = 2
    ·have h4 : ¬ m.aV p.Value = 0 := fun h => h2 ⟨h3, h⟩
     rw [if_pos h3];refine .inr ⟨0, m.aV p.Value, rfl, by omega, ?_⟩;rw [if_neg (by simp)];by_cases h5 : zg2 l i > p.Value
     ·rw [if_pos h5]; exact .inl (by simp [ownV])
     ·rw [if_neg h5]; exact .inr rfl
    ·rw [if_neg h3];by_cases h4 : m.aV p.Value = 0
     ·rw [if_pos h4]; exact .inl ⟨p.Value, rfl, by simp⟩
     ·rw [if_neg h4];refine .inr ⟨m.aV p.Value, p.Value, rfl, ha.2, ?_⟩;rw [if_neg (by simp)];by_cases h5 : zg2 l i > p.Value
      ·rw [if_pos h5];have h6 : ¬ m.aV p.Value = p.Value := by omega
       exact .inr (by simp [ownV, h4, h6])
      ·rw [if_neg h5]; exact .inl rfl
theorem zq0 {m : Mn} {l : List Sg} (hM : ckM m = 0) (hck : ckD m l = 0) {k : Nat} {x : List Int} {c : Int} (hx : (mnsD m l)[k]? = some x) (hc : (zd3 m l)[k]? = some c) : zpP x c := by
 rw [mnsD, List.getElem?_map] at hx;rw [zd3, List.getElem?_map] at hc;cases hd : (yT l l.length)[k]? with
 | none => simp [hd] at hx
 | some i =>
  simp [hd] at hx hc;obtain ⟨j, s, p, h1, h2, h3, h4, h5⟩ := zob hck (List.mem_of_getElem? hd);obtain ⟨_, _, q1, q2, _, q3⟩ := zqL hck h2 h3 h4;unfold mnAt at hx; rw [h5] at hx;unfold zl9 at hc; rw [h5] at hc;have hx : mngs m p = x := hx;have hc : zfX m l i p = c := hc;rw [← hx, ← hc, zmm hM q1 q2 q3, q3];exact ziU hM q1
theorem zmO (m : Mn) (l : List Sg) : (zd3 m l).length = (mnsD m l).length := by
 unfold zd3 mnsD; simp
theorem zmP {m : Mn} {l : List Sg} (hM : ckM m = 0) (hg : ckD m l = 0) : ∀ x ∈ (mnsD m l).reverse, Asc x := by
 intro x hx;rw [List.mem_reverse] at hx;obtain ⟨k, hk⟩ := List.mem_iff_getElem?.1 hx;have hlen := zmO m l;obtain ⟨c, hc⟩ : ∃ c, (zd3 m l)[k]? = some c := ⟨_, lgg (by have := (List.getElem?_eq_some_iff.1 hk).1; omega)⟩;rcases zq0 hM hg hk hc with ⟨a, rfl, _⟩ | ⟨a, b, rfl, hab, _⟩
 ·exact .inl ⟨a, rfl⟩
 ·exact .inr ⟨a, b, rfl, hab⟩
end Go.Rse
