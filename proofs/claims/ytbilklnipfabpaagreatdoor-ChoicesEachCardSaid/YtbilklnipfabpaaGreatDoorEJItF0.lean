/-
  Plain: what an item of a run is, by its number.
-/
import Derived.Test.YtbilklnipfabpaaGreatDoorEJLvl16
import Derived.Test.YtbilklnipfabpaaGreatDoorEDot9
import Derived.Test.YtbilklnipfabpaaGreatDoorEJFull1
import Derived.Test.YtbilklnipfabpaaGreatDoorEJDurs1
set_option linter.unusedSimpArgs false
set_option linter.unusedVariables false
namespace Go.Rse
open Go Go.Proofs
theorem zfh {l : List Sg} {c : List Int} {a : List Bool} {d : List Tm} : ∀ (n : Nat) {i : Nat} {x : Ite}, (itK l c a d n)[i]? = some x -> ∃ (k : Nat) (s : Sg), k < n /\ l[k]? = some s /\ ¬ s.Kind = 3 /\ ntN l k = i /\ x = itOf k s (c.getD i 0) (a.getD i false) (d.getD i ⟨0, 0⟩)
 | 0, i, x, h => by simp [itK] at h
 | n + 1, i, x, h => by
  cases hs : l[n]? with
  | none =>
   simp only [itK, hs] at h;obtain ⟨k, s, h1, h2⟩ := zfh n h;exact ⟨k, s, by omega, h2⟩
  | some s =>
   by_cases hK : s.Kind = 3
   ·rw [← ziJ hs hK] at h;obtain ⟨k, s, h1, h2⟩ := zfh n h;exact ⟨k, s, by omega, h2⟩
   ·simp only [itK, hs, if_neg hK] at h;rw [List.getElem?_append] at h;split at h
    ·obtain ⟨k, s, h1, h2⟩ := zfh n h;exact ⟨k, s, by omega, h2⟩
    ·rename_i hi;have hlt := (List.getElem?_eq_some_iff.1 h).1;rw [zgL] at hi hlt h;have e : i = ntN l n := by simp at hlt; omega
     subst e;simp at h;exact ⟨n, s, by omega, hs, hK, rfl, h.symm⟩
def zQ (ch : List Int) (l : List Sg) (n k : Nat) : Int × Bool := match l[k + 1]? with
 | some z => if k + 1 < n /\ z.Kind = 3 then (ch.getD (yR l (k + 1)).length 0, decide (ch.getD (yR l (k + 1)).length 0 = 0)) else (0, false)
 | none => (0, false)
theorem zdC {l : List Sg} {k j : Nat} {s : Sg} (hs : l[k]? = some s) (h : ¬ s.Kind = 3) (hkj : k < j) : ntN l k < ntN l j := by
 have := zgK l j (k + 1) hkj;rw [zfg hs h] at this; omega
theorem znq {ch : List Int} {l : List Sg} (hD : ∀ (i : Nat) z, l[i]? = some z -> z.Kind = 3 -> ∃ (j : Nat) (p : Sg), i = j + 1 /\ l[j]? = some p /\ ¬ p.Kind = 3) :
 ∀ (n k : Nat) (s : Sg), k < n -> l[k]? = some s -> ¬ s.Kind = 3 -> (mkK ch l n).1[ntN l k]? = some (zQ ch l n k).1 /\ (mkK ch l n).2.1[ntN l k]? = some (zQ ch l n k).2
 | 0, k, s, h, _, _ => by omega
 | n + 1, k, s, hk, hs, h3 => by
  have ih := znq (ch := ch) hD n k s;have hl1 := ziH ch l n;have hl2 := (zel ch l n).1;have hl3 := (zel ch l n).2.2
  have same : ∀ (hne : ¬ (k + 1 = n /\ ∃ z, l[n]? = some z /\ z.Kind = 3)), k < n -> zQ ch l (n + 1) k = zQ ch l n k := fun hne hkn => by
   unfold zQ;cases hz : l[k + 1]? with
   | none => rfl
   | some z =>
    simp only;by_cases h1 : k + 1 < n /\ z.Kind = 3
    ·rw [if_pos h1, if_pos ⟨by omega, h1.2⟩]
    ·rw [if_neg h1, if_neg]
     rintro ⟨h2, h4⟩
     have e : k + 1 = n := Classical.byContradiction fun hn => h1 ⟨by omega, h4⟩
     exact hne ⟨e, z, by rw [← e]; exact hz, h4⟩
  cases hz : l[n]? with
  | none =>
   have hkn : k < n := by
    have h1 := (List.getElem?_eq_some_iff.1 hs).1;have h2 := List.getElem?_eq_none_iff.1 hz;omega
   have e : mkK ch l (n + 1) = mkK ch l n := by simp only [mkK, hz]
   rw [e, same (fun x => by obtain ⟨_, z, h1, _⟩ := x; rw [hz] at h1; cases h1) hkn];exact ih hkn hs h3
  | some z =>
   by_cases hK : z.Kind = 3
   ·obtain ⟨j, p, hj, hp, hp3⟩ := hD n z hz hK;subst hj
    have hkn : k < j + 1 := by
     rcases Nat.lt_or_ge k (j + 1) with h1 | h1
     ·exact h1
     ·have : k = j + 1 := by omega
      subst this; rw [hz] at hs; injection hs with hs; subst hs; exact absurd hK h3
    have hnj : ntN l (j + 1) = ntN l j + 1 := zfg hp hp3;obtain ⟨i1, i2⟩ := ih hkn hs h3;rw [zek hz hK];have e1 : (((mkK ch l (j + 1)).1.length : Int) - 1).toNat = ntN l j := by omega
    have e2 : (((mkK ch l (j + 1)).2.1.length : Int) - 1).toNat = ntN l j := by omega
    rw [e1, e2];by_cases hkj : k = j
    ·subst hkj
     have ea : zQ ch l (k + 1 + 1) k = (ch.getD (yR l (k + 1)).length 0, decide (ch.getD (yR l (k + 1)).length 0 = 0)) := by
      unfold zQ; rw [hz]; simp only; rw [if_pos ⟨by omega, hK⟩]
     rw [ea, hl3];constructor
     ·rw [List.getElem?_set_self (by omega)]
     ·rw [List.getElem?_set_self (by omega)]
    ·have hne : ntN l j ≠ ntN l k := by have := zdC hs h3 (show k < j by omega); omega
     rw [same (fun x => by omega) hkn, List.getElem?_set_ne hne, List.getElem?_set_ne hne];exact ⟨i1, i2⟩
   ·rw [zcV hz hK];by_cases hkn : k < n
    ·obtain ⟨i1, i2⟩ := ih hkn hs h3;rw [same (fun x => by obtain ⟨_, z', h1, h2⟩ := x; rw [hz] at h1; injection h1 with h1; subst h1; exact hK h2) hkn];have g1 := (List.getElem?_eq_some_iff.1 i1).1;have g2 := (List.getElem?_eq_some_iff.1 i2).1;exact ⟨by rw [List.getElem?_append_left g1]; exact i1, by rw [List.getElem?_append_left g2]; exact i2⟩
    ·have e : k = n := by omega
     subst e
     have ea : zQ ch l (k + 1) k = (0, false) := by
      unfold zQ;cases l[k + 1]? with
      | none => rfl
      | some z' => simp only; rw [if_neg (by omega)]
     rw [ea];constructor
     ·show ((mkK ch l k).1 ++ [0])[ntN l k]? = some 0;rw [← hl1]; simp
     ·show ((mkK ch l k).2.1 ++ [false])[ntN l k]? = some false;rw [← hl1, hl2]; simp
end Go.Rse
namespace Go.Rse
open Go Go.Proofs
theorem zjw {l : List Sg} {k : Nat} {s : Sg} (hs : l[k]? = some s) (h3 : s.Kind = 3) : ∀ n, k < n -> (yR l n)[(yR l k).length]? = some (k : Int)
 | 0, h => by omega
 | n + 1, h => by
  rcases Nat.lt_or_ge k n with h1 | h1
  ·have ih := zjw hs h3 n h1;have hl := (List.getElem?_eq_some_iff.1 ih).1;rw [yR, List.getElem?_append, if_pos hl]; exact ih
  ·have : k = n := by omega
   subst this;rw [yR, List.getElem?_append, if_neg (by omega)];simp [hs, h3]
def zq6 (m : Mn) (v : Int) : Bool := decide (1 <= (fullT m v).N) && decide (1 <= (durT m v).N) && decide (1 <= (mulV (fullT m v) ⟨3, 2⟩).N) && decide (1 <= (mulV (durT m v) ⟨3, 2⟩).N)
theorem zmr : zfF zq6 = true := by kernel_rfl
theorem zpi {m : Mn} {s : Sg} {z : Tm} (hm : ckM m = 0) (h1 : 1 <= s.Value) (h8 : s.Value <= 8) (hz : z = bsT m s \/ z = ⟨3, 2⟩ \/ z = ⟨1, 2⟩) : 1 <= z.N /\ 1 <= (mulV z ⟨3, 2⟩).N := by
 have h := zbu zmr hm h1 h8;unfold zq6 at h;simp only [Bool.and_eq_true, decide_eq_true_eq] at h;rcases hz with rfl | rfl | rfl
 ·unfold bsT; split
  ·exact ⟨h.1.1.2, h.2⟩
  ·exact ⟨h.1.1.1, h.1.2⟩
 ·exact ⟨by decide, by decide +kernel⟩
 ·exact ⟨by decide, by decide +kernel⟩
theorem znr {m : Mn} {l : List Sg} {ch : List Int} (h : mkE m l ch = 0) : (mnsD m l).length = ch.length /\ chOk ch (mnsD m l) := by
 have hck := zgM h;unfold mkE at h;rw [if_pos hck] at h;split at h
 ·assumption
 ·cases h
end Go.Rse
namespace Go.Rse
open Go Go.Proofs
def ofG : List (List Int) -> Int -> List Int
 | [], _ => []
 | x :: R, n => ofG R (n / (x.length : Int)) ++ [x.getD (n % (x.length : Int)).toNat 0]
def cntG : List (List Int) -> Int
 | [] => 1
 | x :: R => (x.length : Int) * cntG R
theorem zgg : ∀ (R : List (List Int)) (n : Int), (ofG R n).length = R.length
 | [], _ => rfl
 | x :: R, n => by simp [ofG, zgg R]
def Asc (x : List Int) : Prop := (∃ a, x = [a]) \/ (∃ a b, x = [a, b] /\ a < b)
theorem Asc.len {x : List Int} (h : Asc x) : x.length = 1 \/ x.length = 2 := by
 rcases h with ⟨a, rfl⟩ | ⟨a, b, rfl, _⟩
 ·exact .inl rfl
 ·exact .inr rfl
theorem zjx : ∀ {R : List (List Int)}, (∀ x ∈ R, Asc x) -> 1 <= cntG R
 | [], _ => by simp [cntG]
 | x :: R, h => by
  have h1 := (h x (by simp)).len;have h2 := zjx (R := R) fun y hy => h y (by simp [hy])
  simp only [cntG];rcases h1 with e | e <;> rw [e] <;> omega
inductive ChG : List (List Int) -> List Int -> Prop
 | nil : ChG [] []
 | snoc {x : List Int} {R : List (List Int)} {r : List Int} {v : Int} (hv : v ∈ x) (h : ChG R r) : ChG (x :: R) (r ++ [v])
theorem zns : ∀ {R : List (List Int)}, (∀ x ∈ R, Asc x) -> ∀ {n : Int}, 0 <= n -> n < cntG R -> ChG R (ofG R n)
 | [], _, n, _, _ => .nil
 | x :: R, h, n, h0, h1 => by
  have hR : ∀ y ∈ R, Asc y := fun y hy => h y (by simp [hy])
  simp only [cntG] at h1;simp only [ofG];have hl := (h x (by simp)).len;have hm0 : 0 <= n % (x.length : Int) := Int.emod_nonneg _ (by omega);have hm1 : n % (x.length : Int) < (x.length : Int) := Int.emod_lt_of_pos _ (by omega);refine .snoc ?_ (zns hR (Int.ediv_nonneg h0 (by omega)) (Int.ediv_lt_of_lt_mul (by omega) (by rw [Int.mul_comm]; exact h1)));rw [List.getD_eq_getElem?_getD, lgg (by omega)];exact List.getElem_mem _
theorem zk7 {R : List (List Int)} {r : List Int} (hc : ChG R r) : (∀ x ∈ R, Asc x) -> ∃ n : Int, 0 <= n /\ n < cntG R /\ ofG R n = r := by
 induction hc with
 | nil => exact fun _ => ⟨0, by omega, by simp [cntG], rfl⟩
 | @snoc x R r v hv _ ih =>
  intro h;have hR : ∀ y ∈ R, Asc y := fun y hy => h y (by simp [hy])
  obtain ⟨n, h0, h1, h2⟩ := ih hR;rcases h x (by simp) with ⟨a, rfl⟩ | ⟨a, b, rfl, hab⟩
  ·refine ⟨n, h0, by simp only [cntG, List.length_cons, List.length_nil]; omega, ?_⟩;simp only [ofG, List.length_cons, List.length_nil];have e1 : n / ((0 + 1 : Nat) : Int) = n := by omega
   have e2 : (n % ((0 + 1 : Nat) : Int)).toNat = 0 := by omega
   rw [e1, e2, h2];simp at hv; subst hv; rfl
  ·simp at hv;rcases hv with rfl | rfl
   ·refine ⟨2 * n, by omega, by simp only [cntG, List.length_cons, List.length_nil]; omega, ?_⟩;simp only [ofG, List.length_cons, List.length_nil];have e1 : 2 * n / ((0 + 1 + 1 : Nat) : Int) = n := by omega
    have e2 : (2 * n % ((0 + 1 + 1 : Nat) : Int)).toNat = 0 := by omega
    rw [e1, e2, h2]; rfl
   ·refine ⟨2 * n + 1, by omega, by simp only [cntG, List.length_cons, List.length_nil]; omega, ?_⟩;simp only [ofG, List.length_cons, List.length_nil];have e1 : (2 * n + 1) / ((0 + 1 + 1 : Nat) : Int) = n := by omega
    have e2 : ((2 * n + 1) % ((0 + 1 + 1 : Nat) : Int)).toNat = 1 := by omega
    rw [e1, e2, h2]; rfl
theorem zk8 (L : List (List Int)) (n : Int) : ∀ (d j : Nat), j + d = L.length -> zaO L n L.length = ofG (L.take d).reverse (ofN L n j) ++ zaO L n j
 | 0, j, h => by
  have : j = L.length := by omega
  subst this; simp [ofG]
 | d + 1, j, h => by
  have hd : L[d]? = some L[d] := lgg (by omega)
  have hg : L.getD (L.length - 1 - j) [] = L[d] := by
   rw [show L.length - 1 - j = d by omega, List.getD_eq_getElem?_getD, hd]; rfl
  rw [zk8 L n d (j + 1) (by omega), List.take_add_one, hd];simp only [Option.toList_some, List.reverse_append, List.reverse_cons, List.reverse_nil, List.nil_append, List.cons_append, ofG, zaO, ofN, ofV, hg, List.append_assoc]
theorem znt (L : List (List Int)) (n : Int) : ofD L n = ofG L.reverse n := by
 have := zk8 L n L.length 0 (by omega);rw [List.take_length] at this;simpa [ofD, zaO, ofN] using this
theorem zc1 : ∀ (A B : List (List Int)), cntG (A ++ B) = cntG A * cntG B
 | [], B => by simp [cntG]
 | x :: A, B => by simp only [List.cons_append, cntG, zc1 A B, Int.mul_assoc]
theorem zjy : ∀ (L : List (List Int)), cntG L.reverse = cntG L
 | [] => rfl
 | x :: L => by
  rw [List.reverse_cons, zc1, zjy L];simp only [cntG, Int.mul_one]; exact Int.mul_comm _ _
theorem zh2 : ∀ {L : List (List Int)} {n : Int}, cntF n L <= 64 -> cntF n L = n * cntG L
 | [], n, h => by simp [cntF, cntG]
 | x :: L, n, h => by
  unfold cntF at h ⊢;split at h
  ·omega
  ·rename_i h1;rw [if_neg h1, zh2 h];simp only [cntG, Int.mul_assoc]
theorem zq7 {m : Mn} {l : List Sg} (h : cntE m l = 0) : cntV m l = cntG (mnsD m l).reverse := by
 have hc := zkZ h;unfold cntE at h;rw [if_pos hc] at h;unfold cntV;rw [if_pos hc];by_cases h1 : cntF 1 (mnsD m l) > 64
 ·rw [if_pos h1] at h; simp at h
 ·rw [if_neg h1, zjy, zh2 (by omega), Int.one_mul]
theorem znu {L : List (List Int)} {c : List Int} (hl : L.length = c.length) (h : ∀ (i : Nat) x v, L[i]? = some x -> c[i]? = some v -> v ∈ x) : ∀ k, k <= L.length -> ChG (L.take k).reverse (c.take k)
 | 0, _ => by simpa using ChG.nil
 | k + 1, hk => by
  have hx : L[k]? = some L[k] := lgg (by omega);have hv : c[k]? = some c[k] := lgg (by omega);rw [List.take_add_one, List.take_add_one, hx, hv];simp only [Option.toList_some, List.reverse_append, List.reverse_cons, List.reverse_nil, List.nil_append, List.cons_append];exact .snoc (h k _ _ hx hv) (znu hl h k (by omega))
theorem zso {R : List (List Int)} {r : List Int} (hc : ChG R r) : r.length = R.length /\ ∀ (i : Nat) x v, R.reverse[i]? = some x -> r[i]? = some v -> v ∈ x := by
 induction hc with
 | nil => exact ⟨rfl, fun i x v h => by simp at h⟩
 | @snoc x0 R r v0 hv _ ih =>
  refine ⟨by simp [ih.1], fun i x v hx hvv => ?_⟩;rw [List.reverse_cons, List.getElem?_append] at hx;rw [List.getElem?_append] at hvv;simp only [List.length_reverse] at hx;by_cases hi : i < R.length
  ·rw [if_pos hi] at hx;rw [if_pos (by omega)] at hvv;exact ih.2 i x v hx hvv
  ·rw [if_neg hi] at hx;rw [if_neg (by omega)] at hvv
   have e1 : i - R.length = 0 := by
    have := (List.getElem?_eq_some_iff.1 hx).1;simp at this; omega
   rw [e1] at hx;rw [ih.1, e1] at hvv;simp at hx hvv;subst hx; subst hvv; exact hv
theorem zq8 {L : List (List Int)} {r : List Int} (hc : ChG L.reverse r) : L.length = r.length /\ chOk r L := by
 obtain ⟨h1, h2⟩ := zso hc;rw [List.reverse_reverse] at h2;exact ⟨by simpa using h1.symm, zcW.2 h2⟩
theorem zgh : ∀ {R : List (List Int)}, (∀ x ∈ R, Asc x) -> ∀ {n k : Int}, 0 <= n -> n < cntG R -> 0 <= k -> k < cntG R -> ofG R n = ofG R k -> n = k
 | [], _, n, k, h0, h1, h2, h3, _ => by simp [cntG] at h1 h3; omega
 | x :: R, h, n, k, h0, h1, h2, h3, e => by
  have hR : ∀ y ∈ R, Asc y := fun y hy => h y (by simp [hy])
  simp only [cntG] at h1 h3;simp only [ofG] at e;obtain ⟨e1, e2⟩ := List.append_inj e (by rw [zgg, zgg]);simp only [List.cons.injEq, and_true] at e2;rcases h x (by simp) with ⟨a, rfl⟩ | ⟨a, b, rfl, hab⟩
  ·simp only [List.length_cons, List.length_nil] at h1 h3 e1;have := zgh hR (by omega) (by omega) (by omega) (by omega) e1;omega
  ·simp only [List.length_cons, List.length_nil] at h1 h3 e1 e2;have hq := zgh hR (by omega) (by omega) (by omega) (by omega) e1;rcases Int.emod_two_eq n with q | q <;> rcases Int.emod_two_eq k with q' | q'
   ·omega
   ·exfalso;rw [show (n % ((0 + 1 + 1 : Nat) : Int)).toNat = 0 by omega, show (k % ((0 + 1 + 1 : Nat) : Int)).toNat = 1 by omega] at e2;simp at e2; omega
   ·exfalso;rw [show (n % ((0 + 1 + 1 : Nat) : Int)).toNat = 1 by omega, show (k % ((0 + 1 + 1 : Nat) : Int)).toNat = 0 by omega] at e2;simp at e2; omega
   ·omega
def zq9 (x : List Int) (c : Int) : Prop := (∃ a, x = [a] /\ c = a) \/ (∃ a b, x = [a, b] /\ a < b /\ (c = a \/ c = b))
theorem zjz {m : Mn} {l : List Sg} {i : Int} {p : Sg} (hM : ckM m = 0) (h1 : 1 <= p.Value) : zq9 (mngR m p) (zge m l i p) := by
 have ha := ziK (m := m) h1;unfold zge mngR;by_cases hK : p.Kind = 2
 ·simp only [hK, if_true]; exact .inl ⟨_, rfl, by simp⟩
 ·simp only [hK, if_false];by_cases hC : p.Color = true
  ·simp only [hC, if_true]; exact .inl ⟨0, rfl, by simp⟩
  ·simp only [hC, if_false];by_cases h2 : m.p p.Value = 2 /\ m.aV p.Value = 0
   ·simp only [h2, and_self, if_true]; exact .inl ⟨0, rfl, by simp⟩
   ·rw [if_neg h2];by_cases h3 : m.p p.Value = 2
    ·have h4 : ¬ m.aV p.Value = 0 := fun h => h2 ⟨h3, h⟩
     rw [if_pos h3];refine .inr ⟨0, m.aV p.Value, rfl, by omega, ?_⟩;rw [if_neg (by simp)];by_cases h5 : zeq l i > p.Value
     ·rw [if_pos h5]; exact .inl (by simp [ownV])
     ·rw [if_neg h5]; exact .inr rfl
    ·rw [if_neg h3];by_cases h4 : m.aV p.Value = 0
     ·rw [if_pos h4]; exact .inl ⟨p.Value, rfl, by simp⟩
     ·rw [if_neg h4];refine .inr ⟨m.aV p.Value, p.Value, rfl, ha.2, ?_⟩;rw [if_neg (by simp)];by_cases h5 : zeq l i > p.Value
      ·rw [if_pos h5];have h6 : ¬ m.aV p.Value = p.Value := by omega
       exact .inr (by simp [ownV, h4, h6])
      ·rw [if_neg h5]; exact .inl rfl
theorem znv {m : Mn} {l : List Sg} (hM : ckM m = 0) (hck : ckD m l = 0) {k : Nat} {x : List Int} {c : Int} (hx : (mnsD m l)[k]? = some x) (hc : (zA m l)[k]? = some c) : zq9 x c := by
 rw [mnsD, List.getElem?_map] at hx;rw [zA, List.getElem?_map] at hc;cases hd : (yR l l.length)[k]? with
 | none => simp [hd] at hx
 | some i =>
  simp [hd] at hx hc;obtain ⟨j, s, p, h1, h2, h3, h4, h5⟩ := zpb hck (List.mem_of_getElem? hd);obtain ⟨_, _, q1, q2, _, q3⟩ := zsd hck h2 h3 h4;unfold mnAt at hx; rw [h5] at hx;unfold zcw at hc; rw [h5] at hc;have hx : mngs m p = x := hx;have hc : zaD m l i p = c := hc;rw [← hx, ← hc, znk hM q1 q2 q3, q3];exact zjz hM q1
theorem zc2 (m : Mn) (l : List Sg) : (zA m l).length = (mnsD m l).length := by
 unfold zA mnsD; simp
theorem znw {m : Mn} {l : List Sg} (hM : ckM m = 0) (hg : ckD m l = 0) : ∀ x ∈ (mnsD m l).reverse, Asc x := by
 intro x hx;rw [List.mem_reverse] at hx;obtain ⟨k, hk⟩ := List.mem_iff_getElem?.1 hx;have hlen := zc2 m l;obtain ⟨c, hc⟩ : ∃ c, (zA m l)[k]? = some c := ⟨_, lgg (by have := (List.getElem?_eq_some_iff.1 hk).1; omega)⟩;rcases znv hM hg hk hc with ⟨a, rfl, _⟩ | ⟨a, b, rfl, hab, _⟩
 ·exact .inl ⟨a, rfl⟩
 ·exact .inr ⟨a, b, rfl, hab⟩
theorem zk9 {m : Mn} {l : List Sg} (hM : ckM m = 0) (hg : ckD m l = 0) : ChG (mnsD m l).reverse (zA m l) := by
 have hlen := zc2 m l
 have h := znu (L := mnsD m l) (c := zA m l) hlen.symm (fun i x v hx hv => by
  rcases znv hM hg hx hv with ⟨a, rfl, rfl⟩ | ⟨a, b, rfl, hab, rfl | rfl⟩ <;> simp) (mnsD m l).length (Nat.le_refl _)
 rwa [List.take_length, ← hlen, List.take_length] at h
end Go.Rse
namespace Go.Rse
open Go Go.Proofs
def rP (m : Mn) (l : List Sg) : List (List Int) := List.replicate (prL m l).length [1, 2] ++ (mnsD m l).reverse
theorem znx (n : Int) (P : Nat) : digP n (P + 1) (P + 1) = digP (n / 2) P P ++ [if n % 2 = 0 then 1 else 2] := by
 unfold digP;rw [List.range_succ, List.map_append];congr 1
 ·refine List.map_congr_left fun j hj => ?_
  have hj := List.mem_range.1 hj;unfold dig;rw [show P + 1 - 1 - j = (P - 1 - j) + 1 by omega, Int.pow_succ, Int.mul_comm, ← Int.ediv_ediv_of_nonneg (by decide)]
 ·simp [dig]
theorem zla (A : List (List Int)) : ∀ (P : Nat) (n : Int), ofG (List.replicate P [1, 2] ++ A) n = ofG A (n / 2 ^ P) ++ digP n P P
 | 0, n => by simp [digP]
 | P + 1, n => by
  have ih := zla A P (n / 2);rw [List.replicate_succ, List.cons_append];show ofG (List.replicate P [1, 2] ++ A) (n / 2) ++ [([1, 2] : List Int).getD (n % 2).toNat 0] = _;rw [ih, znx, ← List.append_assoc, Int.ediv_ediv_of_nonneg (by decide), ← Int.mul_comm, ← Int.pow_succ];congr 2;rcases Int.emod_two_eq n with h | h <;> rw [h] <;> rfl
theorem zjA : ∀ P : Nat, cntG (List.replicate P [1, 2]) = 2 ^ P
 | 0 => rfl
 | P + 1 => by
  rw [List.replicate_succ];show 2 * cntG (List.replicate P [1, 2]) = _;rw [zjA P, Int.pow_succ, Int.mul_comm]
theorem ziM {m : Mn} {l : List Sg} (hM : ckM m = 0) (hck : ckD m l = 0) : ∀ x ∈ rP m l, Asc x := fun x hx => by
 unfold rP at hx;rcases List.mem_append.1 hx with h | h
 ·obtain ⟨_, rfl⟩ := List.mem_replicate.1 h;exact .inr ⟨1, 2, rfl, by decide⟩
 ·exact znw hM hck x h
theorem zfi {m : Mn} {l : List Sg} (h : ictE m l = 0) : ictV m l = cntG (rP m l) := by
 obtain ⟨hck, a, b, q2, q3, hV, h64, hc⟩ := zg4 h;unfold rP;rw [zc1, zjA, hV, q3, zq7 a, Int.mul_comm]
def cmb (m : Mn) (l : List Sg) (n : Int) : List Int := iofD m l n ++ iofM m l n
theorem zlb {m : Mn} {l : List Sg} {n : Int} (h : iofE m l n = 0) : cmb m l n = ofG (rP m l) n := by
 unfold cmb iofD iofM rP;rw [if_pos h, if_pos h, zla, znt]
theorem zfj {m : Mn} {l : List Sg} (h : ictE m l = 0) {i : Nat} (hi : (i : Int) < ictV m l) : iofE m l (i : Int) = 0 := by
 unfold iofE; rw [if_pos h, if_neg (by omega)]
theorem zgi {m : Mn} {l : List Sg} {n : Int} (h : iofE m l n = 0) : (iofD m l n).length = (mnsD m l).length := by
 unfold iofD; rw [if_pos h, znt, zgg]; simp
theorem ziN {m : Mn} {l : List Sg} {n : Int} (h : iofE m l n = 0) : (iofM m l n).length = (prL m l).length := by
 unfold iofM; rw [if_pos h, zgF]
theorem zlc {R : List (List Int)} {r : List Int} (h : ChG R r) : ∀ P : Nat, ChG (List.replicate P [1, 2] ++ R) (r ++ twos P)
 | 0 => by simpa [twos] using h
 | P + 1 => by
  have ih := zlc h P;rw [← zhV, ← List.append_assoc, List.replicate_succ, List.cons_append];exact .snoc (by simp) ih
theorem zpj {m : Mn} {l : List Sg} (hM : ckM m = 0) (hck : ckD m l = 0) : ChG (rP m l) (zA m l ++ twos (prL m l).length) := zlc (zk9 hM hck) _
theorem zjB {m : Mn} {l : List Sg} (hM : ckM m = 0) (hck : ckD m l = 0) (h : ictE m l = 0) : ∃ n0 : Nat, (n0 : Int) < ictV m l /\ ∀ i : Nat, (i : Int) < ictV m l -> ((iofD m l (i : Int) = zA m l /\ iofM m l (i : Int) = twos (prL m l).length) ↔ i = n0) := by
 have hA := ziM hM hck;obtain ⟨n, h0, h1, h2⟩ := zk7 (zpj hM hck) hA;refine ⟨n.toNat, by rw [zfi h]; omega, fun i hi => ?_⟩;have he := zfj h hi;have hG := zlb he;constructor
 ·rintro ⟨e1, e2⟩
  unfold cmb at hG;rw [e1, e2] at hG;have := zgh hA (n := (i : Int)) (k := n) (by omega) (by rw [← zfi h]; exact hi) h0 h1 (hG.symm.trans h2.symm);omega
 ·intro e; subst e;rw [Int.toNat_of_nonneg h0] at hG ⊢;rw [h2] at hG;unfold cmb at hG
  have hl : (iofD m l n).length = (zA m l).length := by
   rw [Int.toNat_of_nonneg h0] at he;rw [zgi he, zc2]
  exact ⟨List.append_inj_left hG hl, List.append_inj_right hG hl⟩
theorem zpk (n : Int) (K j : Nat) : mnOk (digP n K j) = true := by
 unfold mnOk digP;rw [List.all_eq_true];intro x hx;obtain ⟨i, _, rfl⟩ := List.mem_map.1 hx;unfold dig;split <;> simp
theorem zny {m : Mn} {l : List Sg} (hM : ckM m = 0) (hck : ckD m l = 0) {n : Int} (he : iofE m l n = 0) : itmE m l (iofD m l n) (iofM m l n) = 0 := by
 obtain ⟨hE, h0, h1⟩ := zrn he;obtain ⟨_, a, b, q2, q3, hV, h64, hc⟩ := zg4 hE
 have hmk : mkE m l (iofD m l n) = 0 := by
  have hq0 : 0 <= n / 2 ^ (prL m l).length := Int.ediv_nonneg h0 (by have := zch q2; omega);have hq1 : n / 2 ^ (prL m l).length < cntV m l := Int.ediv_lt_of_lt_mul (by have := zch q2; omega) (by rw [← q3, ← hV]; exact h1);have h := zq8 (zns (znw hM hck) hq0 (by rw [← zq7 a]; exact hq1));unfold mkE iofD;rw [if_pos hck, if_pos he, znt, if_pos h]
 have hdu : duE m l (iofM m l n) = 0 := by
  unfold duE;rw [if_pos hck, if_pos ⟨ziN he, by unfold iofM; rw [if_pos he]; exact zpk _ _ _⟩]
 unfold itmE;rw [if_pos hmk, hdu]
theorem znz {m : Mn} {l : List Sg} (hck : ckD m l = 0) (h : ¬ ictE m l = 0) : ictE m l = 15 := by
 have h1 := (zpR hck).1;rw [h1] at h ⊢;split
 ·rfl
 ·rename_i h2; rw [if_neg h2] at h; exact absurd rfl h
theorem zld {m : Mn} {l : List Sg} (hM : ckM m = 0) (h : ictE m l = 0) : 1 <= ictV m l /\ ictV m l <= 64 := by
 have h0 := zg4 h;exact ⟨by rw [zfi h]; exact zjx (ziM hM h0.1), h0.2.2.2.2.2.2.1⟩
theorem ziO (m : Mn) (l : List Sg) : (mnsD m l).length <= l.length := by
 unfold mnsD; rw [List.length_map]; exact zbw l l.length
end Go.Rse
