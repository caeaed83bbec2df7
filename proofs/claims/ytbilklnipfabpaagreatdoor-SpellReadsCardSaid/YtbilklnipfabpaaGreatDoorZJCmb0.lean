/-
  Plain: combinations by number rise in the lists' order, and each is had once (for any valid run).
-/
import Derived.Test.YtbilklnipfabpaaGreatDoorZDot9
import Derived.Test.YtbilklnipfabpaaGreatDoorZJColor3
import Derived.Test.YtbilklnipfabpaaGreatDoorZJLvl16
import Derived.Test.YtbilklnipfabpaaGreatDoorZJColor8
import Derived.Test.YtbilklnipfabpaaGreatDoorZJKit1
set_option linter.unusedSimpArgs false
set_option linter.unusedVariables false
namespace Go.Rse
open Go Go.Proofs
def ofG : List (List Int) -> Int -> List Int
 | [], _ => []
 | x :: R, n => ofG R (n / (x.length : Int)) ++ [x.getD (n % (x.length : Int)).toNat 0]
def cntG : List (List Int) -> Int
 | [] => 1
 | x :: R => (x.length : Int) * cntG R
theorem zkk : ∀ (R : List (List Int)) (n : Int), (ofG R n).length = R.length
 | [], _ => rfl
 | x :: R, n => by simp [ofG, zkk R]
def Asc (x : List Int) : Prop := (∃ a, x = [a]) \/ (∃ a b, x = [a, b] /\ a < b)
theorem Asc.len {x : List Int} (h : Asc x) : x.length = 1 \/ x.length = 2 := by
 rcases h with ⟨a, rfl⟩ | ⟨a, b, rfl, _⟩
 ·exact .inl rfl
 ·exact .inr rfl
theorem ziI : ∀ {R : List (List Int)}, (∀ x ∈ R, Asc x) -> 1 <= cntG R
 | [], _ => by simp [cntG]
 | x :: R, h => by
  have h1 := (h x (by simp)).len;have h2 := ziI (R := R) fun y hy => h y (by simp [hy])
  simp only [cntG];rcases h1 with e | e <;> rw [e] <;> omega
inductive ChG : List (List Int) -> List Int -> Prop
 | nil : ChG [] []
 | snoc {x : List Int} {R : List (List Int)} {r : List Int} {v : Int} (hv : v ∈ x) (h : ChG R r) : ChG (x :: R) (r ++ [v])
theorem zlO : ∀ {R : List (List Int)}, (∀ x ∈ R, Asc x) -> ∀ {n : Int}, 0 <= n -> n < cntG R -> ChG R (ofG R n)
 | [], _, n, _, _ => .nil
 | x :: R, h, n, h0, h1 => by
  have hR : ∀ y ∈ R, Asc y := fun y hy => h y (by simp [hy])
  simp only [cntG] at h1;simp only [ofG];have hl := (h x (by simp)).len;have hm0 : 0 <= n % (x.length : Int) := Int.emod_nonneg _ (by omega);have hm1 : n % (x.length : Int) < (x.length : Int) := Int.emod_lt_of_pos _ (by omega);refine .snoc ?_ (zlO hR (Int.ediv_nonneg h0 (by omega)) (Int.ediv_lt_of_lt_mul (by omega) (by rw [Int.mul_comm]; exact h1)));rw [List.getD_eq_getElem?_getD, lgg (by omega)];exact List.getElem_mem _
theorem zn5 {R : List (List Int)} {r : List Int} (hc : ChG R r) : (∀ x ∈ R, Asc x) -> ∃ n : Int, 0 <= n /\ n < cntG R /\ ofG R n = r := by
 induction hc with
 | nil => exact fun _ => ⟨0, by omega, by simp [cntG], rfl⟩
 | @snoc x R r v hv _ ih =>
  intro h;have hR : ∀ y ∈ R, Asc y := fun y hy => h y (by simp [hy])
  obtain ⟨n, h0, h1, h2⟩ := ih hR;rcases h x (by simp) with ⟨a, rfl⟩ | ⟨a, b, rfl, hab⟩
  ·refine ⟨n, h0, by simp only [cntG, List.length_cons, List.length_nil]; omega, ?_⟩;simp only [ofG, List.length_cons, List.length_nil];have e1 : n / ((0 + 1 : Nat) : Int) = n := by omega
   have e2 : (n % ((0 + 1 : Nat) : Int)).toNat = 0 := by omega
   rw [e1, e2, h2];simp at hv; subst hv; rfl
  ·simp at hv;rcases hv with rfl | rfl
   ·refine ⟨2 * n, by omega, by simp only [cntG, List.length_cons, List.length_nil]; omega, ?_⟩;simp only [ofG, List.length_cons, List.length_nil];have e1 : 2 * n / ((0 + 1 + 1 : Nat) : Int) = n := by omega
    have e2 : (2 * n % ((0 + 1 + 1 : Nat) : Int)).toNat = 0 := by omega
    rw [e1, e2, h2]; rfl
   ·refine ⟨2 * n + 1, by omega, by simp only [cntG, List.length_cons, List.length_nil]; omega, ?_⟩;simp only [ofG, List.length_cons, List.length_nil];have e1 : (2 * n + 1) / ((0 + 1 + 1 : Nat) : Int) = n := by omega
    have e2 : ((2 * n + 1) % ((0 + 1 + 1 : Nat) : Int)).toNat = 1 := by omega
    rw [e1, e2, h2]; rfl
theorem zkl (L : List (List Int)) (n : Int) : ∀ (d j : Nat), j + d = L.length -> zaF L n L.length = ofG (L.take d).reverse (ofN L n j) ++ zaF L n j
 | 0, j, h => by
  have : j = L.length := by omega
  subst this; simp [ofG]
 | d + 1, j, h => by
  have hd : L[d]? = some L[d] := lgg (by omega)
  have hg : L.getD (L.length - 1 - j) [] = L[d] := by
   rw [show L.length - 1 - j = d by omega, List.getD_eq_getElem?_getD, hd]; rfl
  rw [zkl L n d (j + 1) (by omega), List.take_add_one, hd];simp only [Option.toList_some, List.reverse_append, List.reverse_cons, List.reverse_nil, List.nil_append, List.cons_append, ofG, zaF, ofN, ofV, hg, List.append_assoc]
theorem zlP (L : List (List Int)) (n : Int) : ofD L n = ofG L.reverse n := by
 have := zkl L n L.length 0 (by omega);rw [List.take_length] at this;simpa [ofD, zaF, ofN] using this
theorem zcM : ∀ (A B : List (List Int)), cntG (A ++ B) = cntG A * cntG B
 | [], B => by simp [cntG]
 | x :: A, B => by simp only [List.cons_append, cntG, zcM A B, Int.mul_assoc]
theorem ziJ : ∀ (L : List (List Int)), cntG L.reverse = cntG L
 | [] => rfl
 | x :: L => by
  rw [List.reverse_cons, zcM, ziJ L];simp only [cntG, Int.mul_one]; exact Int.mul_comm _ _
theorem zg9 : ∀ {L : List (List Int)} {n : Int}, cntF n L <= 64 -> cntF n L = n * cntG L
 | [], n, h => by simp [cntF, cntG]
 | x :: L, n, h => by
  unfold cntF at h ⊢;split at h
  ·omega
  ·rename_i h1;rw [if_neg h1, zg9 h];simp only [cntG, Int.mul_assoc]
theorem zpU {m : Mn} {l : List Sg} (h : cntE m l = 0) : cntV m l = cntG (mnsD m l).reverse := by
 have hc := zkv h;unfold cntE at h;rw [if_pos hc] at h;unfold cntV;rw [if_pos hc];by_cases h1 : cntF 1 (mnsD m l) > 64
 ·rw [if_pos h1] at h; simp at h
 ·rw [if_neg h1, ziJ, zg9 (by omega), Int.one_mul]
theorem zpV {L : List (List Int)} {c : List Int} (hl : L.length = c.length) (h : ∀ (i : Nat) x v, L[i]? = some x -> c[i]? = some v -> v ∈ x) : ∀ k, k <= L.length -> ChG (L.take k).reverse (c.take k)
 | 0, _ => by simpa using ChG.nil
 | k + 1, hk => by
  have hx : L[k]? = some L[k] := lgg (by omega);have hv : c[k]? = some c[k] := lgg (by omega);rw [List.take_add_one, List.take_add_one, hx, hv];simp only [Option.toList_some, List.reverse_append, List.reverse_cons, List.reverse_nil, List.nil_append, List.cons_append];exact .snoc (h k _ _ hx hv) (zpV hl h k (by omega))
theorem zqJ {R : List (List Int)} {r : List Int} (hc : ChG R r) : r.length = R.length /\ ∀ (i : Nat) x v, R.reverse[i]? = some x -> r[i]? = some v -> v ∈ x := by
 induction hc with
 | nil => exact ⟨rfl, fun i x v h => by simp at h⟩
 | @snoc x0 R r v0 hv _ ih =>
  refine ⟨by simp [ih.1], fun i x v hx hvv => ?_⟩;rw [List.reverse_cons, List.getElem?_append] at hx;rw [List.getElem?_append] at hvv;simp only [List.length_reverse] at hx;by_cases hi : i < R.length
  ·rw [if_pos hi] at hx;rw [if_pos (by omega)] at hvv;exact ih.2 i x v hx hvv
  ·rw [if_neg hi] at hx;rw [if_neg (by omega)] at hvv
   have e1 : i - R.length = 0 := by
    have := (List.getElem?_eq_some_iff.1 hx).1;simp at this; omega
   rw [e1] at hx;rw [ih.1, e1] at hvv;simp at hx hvv;subst hx; subst hvv; exact hv
theorem zsk {L : List (List Int)} {r : List Int} (hc : ChG L.reverse r) : L.length = r.length /\ chOk r L := by
 obtain ⟨h1, h2⟩ := zqJ hc;rw [List.reverse_reverse] at h2;exact ⟨by simpa using h1.symm, zbZ.2 h2⟩
def zpW (x : List Int) (c : Int) : Prop := (∃ a, x = [a] /\ c = a) \/ (∃ a b, x = [a, b] /\ a < b /\ (c = a \/ c = b))
theorem ziK {m : Mn} {l : List Sg} {i : Int} {p : Sg} (hM : ckM m = 0) (h1 : 1 <= p.Value) : zpW (mngR m p) (zfz m l i p) := by
 have ha := zhQ (m := m) h1;unfold zfz mngR;by_cases hK : p.Kind = 2
 ·simp only [hK, if_true]; exact .inl ⟨_, rfl, by simp⟩
 ·simp only [hK, if_false];by_cases hC : p.Color = true
  ·simp only [hC, if_true]; exact .inl ⟨0, rfl, by simp⟩
  ·simp only [hC, if_false];by_cases h2 : m.p p.Value = 2 /\ m.aV p.Value = 0
   ·simp only [h2, and_self, if_true]; exact .inl ⟨0, rfl, by simp⟩
   ·rw [if_neg h2];by_cases h3 : m.p p.Value = 2
    ·have h4 : ¬ m.aV p.Value = 0 := fun h => h2 ⟨h3, h⟩
     rw [if_pos h3];refine .inr ⟨0, m.aV p.Value, rfl, by omega, ?_⟩;rw [if_neg (by simp)];by_cases h5 : zhf l i > p.Value
     ·rw [if_pos h5]; exact .inl (by simp [ownV])
     ·rw [if_neg h5]; exact .inr rfl
    ·rw [if_neg h3];by_cases h4 : m.aV p.Value = 0
     ·rw [if_pos h4]; exact .inl ⟨p.Value, rfl, by simp⟩
     ·rw [if_neg h4];refine .inr ⟨m.aV p.Value, p.Value, rfl, ha.2, ?_⟩;rw [if_neg (by simp)];by_cases h5 : zhf l i > p.Value
      ·rw [if_pos h5];have h6 : ¬ m.aV p.Value = p.Value := by omega
       exact .inr (by simp [ownV, h4, h6])
      ·rw [if_neg h5]; exact .inl rfl
theorem zqK {m : Mn} {l : List Sg} (hM : ckM m = 0) (hck : ckD m l = 0) {k : Nat} {x : List Int} {c : Int} (hx : (mnsD m l)[k]? = some x) (hc : (zd4 m l)[k]? = some c) : zpW x c := by
 rw [mnsD, List.getElem?_map] at hx;rw [zd4, List.getElem?_map] at hc;cases hd : (yK l l.length)[k]? with
 | none => simp [hd] at hx
 | some i =>
  simp [hd] at hx hc;obtain ⟨j, s, p, h1, h2, h3, h4, h5⟩ := zog hck (List.mem_of_getElem? hd);obtain ⟨_, _, q1, q2, _, q3⟩ := zqS hck h2 h3 h4;unfold mnAt at hx; rw [h5] at hx;unfold zme at hc; rw [h5] at hc;have hx : mngs m p = x := hx;have hc : zeG m l i p = c := hc;rw [← hx, ← hc, zl0 hM q1 q2 q3, q3];exact ziK hM q1
theorem zlQ (m : Mn) (l : List Sg) : (zd4 m l).length = (mnsD m l).length := by
 unfold zd4 mnsD; simp
theorem zlR {m : Mn} {l : List Sg} (hM : ckM m = 0) (hg : ckD m l = 0) : ∀ x ∈ (mnsD m l).reverse, Asc x := by
 intro x hx;rw [List.mem_reverse] at hx;obtain ⟨k, hk⟩ := List.mem_iff_getElem?.1 hx;have hlen := zlQ m l;obtain ⟨c, hc⟩ : ∃ c, (zd4 m l)[k]? = some c := ⟨_, lgg (by have := (List.getElem?_eq_some_iff.1 hk).1; omega)⟩;rcases zqK hM hg hk hc with ⟨a, rfl, _⟩ | ⟨a, b, rfl, hab, _⟩
 ·exact .inl ⟨a, rfl⟩
 ·exact .inr ⟨a, b, rfl, hab⟩
end Go.Rse
namespace Go.Rse
open Go Go.Proofs
def rP (m : Mn) (l : List Sg) : List (List Int) := List.replicate (prL m l).length [1, 2] ++ (mnsD m l).reverse
theorem zlS (n : Int) (P : Nat) : digP n (P + 1) (P + 1) = digP (n / 2) P P ++ [if n % 2 = 0 then 1 else 2] := by
 unfold digP;rw [List.range_succ, List.map_append];congr 1
 ·refine List.map_congr_left fun j hj => ?_
  have hj := List.mem_range.1 hj;unfold dig;rw [show P + 1 - 1 - j = (P - 1 - j) + 1 by omega, Int.pow_succ, Int.mul_comm, ← Int.ediv_ediv_of_nonneg (by decide)]
 ·simp [dig]
theorem zkm (A : List (List Int)) : ∀ (P : Nat) (n : Int), ofG (List.replicate P [1, 2] ++ A) n = ofG A (n / 2 ^ P) ++ digP n P P
 | 0, n => by simp [digP]
 | P + 1, n => by
  have ih := zkm A P (n / 2);rw [List.replicate_succ, List.cons_append];show ofG (List.replicate P [1, 2] ++ A) (n / 2) ++ [([1, 2] : List Int).getD (n % 2).toNat 0] = _;rw [ih, zlS, ← List.append_assoc, Int.ediv_ediv_of_nonneg (by decide), ← Int.mul_comm, ← Int.pow_succ];congr 2;rcases Int.emod_two_eq n with h | h <;> rw [h] <;> rfl
theorem ziL : ∀ P : Nat, cntG (List.replicate P [1, 2]) = 2 ^ P
 | 0 => rfl
 | P + 1 => by
  rw [List.replicate_succ];show 2 * cntG (List.replicate P [1, 2]) = _;rw [ziL P, Int.pow_succ, Int.mul_comm]
theorem zlT {m : Mn} {l : List Sg} (hM : ckM m = 0) (hck : ckD m l = 0) : ∀ x ∈ rP m l, Asc x := fun x hx => by
 unfold rP at hx;rcases List.mem_append.1 hx with h | h
 ·obtain ⟨_, rfl⟩ := List.mem_replicate.1 h;exact .inr ⟨1, 2, rfl, by decide⟩
 ·exact zlR hM hck x h
theorem zlU {m : Mn} {l : List Sg} (h : ictE m l = 0) : ictV m l = cntG (rP m l) := by
 obtain ⟨hck, a, b, q2, q3, hV, h64, hc⟩ := zgc h;unfold rP;rw [zcM, ziL, hV, q3, zpU a, Int.mul_comm]
def cmb (m : Mn) (l : List Sg) (n : Int) : List Int := iofD m l n ++ iofM m l n
theorem zsl {m : Mn} {l : List Sg} {n : Int} (h : iofE m l n = 0) : cmb m l n = ofG (rP m l) n := by
 unfold cmb iofD iofM rP;rw [if_pos h, if_pos h, zkm, zlP]
theorem zjx {m : Mn} {l : List Sg} (h : ictE m l = 0) {i : Nat} (hi : (i : Int) < ictV m l) : iofE m l (i : Int) = 0 := by
 unfold iofE; rw [if_pos h, if_neg (by omega)]
theorem zkn {m : Mn} {l : List Sg} {n : Int} (h : iofE m l n = 0) : (iofD m l n).length = (mnsD m l).length := by
 unfold iofD; rw [if_pos h, zlP, zkk]; simp
theorem zko {m : Mn} {l : List Sg} {n : Int} (h : iofE m l n = 0) : (iofM m l n).length = (prL m l).length := by
 unfold iofM; rw [if_pos h, ziR]
theorem zn6 (n : Int) (K j : Nat) : mnOk (digP n K j) = true := by
 unfold mnOk digP;rw [List.all_eq_true];intro x hx;obtain ⟨i, _, rfl⟩ := List.mem_map.1 hx;unfold dig;split <;> simp
theorem zlV {m : Mn} {l : List Sg} (hM : ckM m = 0) (hck : ckD m l = 0) {n : Int} (he : iofE m l n = 0) : itmE m l (iofD m l n) (iofM m l n) = 0 := by
 obtain ⟨hE, h0, h1⟩ := zp7 he;obtain ⟨_, a, b, q2, q3, hV, h64, hc⟩ := zgc hE
 have hmk : mkE m l (iofD m l n) = 0 := by
  have hq0 : 0 <= n / 2 ^ (prL m l).length := Int.ediv_nonneg h0 (by have := zb2 q2; omega);have hq1 : n / 2 ^ (prL m l).length < cntV m l := Int.ediv_lt_of_lt_mul (by have := zb2 q2; omega) (by rw [← q3, ← hV]; exact h1);have h := zsk (zlO (zlR hM hck) hq0 (by rw [← zpU a]; exact hq1));unfold mkE iofD;rw [if_pos hck, if_pos he, zlP, if_pos h]
 have hdu : duE m l (iofM m l n) = 0 := by
  unfold duE;rw [if_pos hck, if_pos ⟨zko he, by unfold iofM; rw [if_pos he]; exact zn6 _ _ _⟩]
 unfold itmE;rw [if_pos hmk, hdu]
theorem zqL {m : Mn} {l : List Sg} (hck : ckD m l = 0) (h : ¬ ictE m l = 0) : ictE m l = 15 := by
 have h1 := (zoP hck).1;rw [h1] at h ⊢;split
 ·rfl
 ·rename_i h2; rw [if_neg h2] at h; exact absurd rfl h
theorem zn7 {m : Mn} {l : List Sg} (hM : ckM m = 0) (h : ictE m l = 0) : 1 <= ictV m l /\ ictV m l <= 64 := by
 have h0 := zgc h;exact ⟨by rw [zlU h]; exact ziI (zlT hM h0.1), h0.2.2.2.2.2.2.1⟩
theorem zn8 (m : Mn) (l : List Sg) : (mnsD m l).length <= l.length := by
 unfold mnsD; rw [List.length_map]; exact zbm l l.length
end Go.Rse
namespace Go.Rse
open Go Go.Proofs
def abvK (m : Mn) (v : Int) : Bool := (decide (1 < v) && decide (m.p 1 = 3)) || (decide (2 < v) && decide (m.p 2 = 3)) || (decide (3 < v) && decide (m.p 3 = 3)) || (decide (4 < v) && decide (m.p 4 = 3))
theorem zlW {m : Mn} {v k : Int} (h1 : 1 <= k) (h2 : k < v) (h3 : m.p k = 3) : abvK m v = true := by
 have h4 : k <= 4 := by
  rcases Int.lt_or_le 4 k with h | h
  ·rw [zm9 h] at h3; omega
  ·exact h
 have : k = 1 \/ k = 2 \/ k = 3 \/ k = 4 := by omega
 unfold abvK;rcases this with rfl | rfl | rfl | rfl <;> simp [h2, h3]
theorem zkp {m : Mn} {v : Int} (h : ∀ k, 1 <= k -> k < v -> ¬ m.p k = 3) : abvK m v = false := by
 unfold abvK
 have e : ∀ k : Int, 1 <= k -> (decide (k < v) && decide (m.p k = 3)) = false := fun k hk => by
  by_cases h2 : k < v
  ·rw [decide_eq_false (h k hk h2)]; simp
  ·rw [decide_eq_false h2]; rfl
 rw [e 1 (by omega), e 2 (by omega), e 3 (by omega), e 4 (by omega)]; rfl
theorem zn9 {m : Mn} {v : Int} (hm : ckM m = 0) (h1 : 1 <= v) (h8 : v <= 8) (h : abvK m v = true) : ¬ m.aV v = 0 := by
 intro ha
 have hv : m.ab v = 0 := by
  have h0 : ckMV m v = 0 := zmi hm h1 h8;unfold Mn.aV at ha; rw [if_pos h0] at ha; exact ha
 have key : ∀ k : Int, 1 <= k -> k < v -> ¬ m.p k = 3 := by
  intro k hk1 hk2 hk3
  have : ∃ w, 1 <= w /\ w < v /\ m.p w = 3 /\ ∀ u, w < u -> u < v -> m.p u ≠ 3 := by
   have hind : ∀ n : Nat, ∀ w : Int, 1 <= w -> w < v -> m.p w = 3 -> (v - w).toNat = n -> ∃ w, 1 <= w /\ w < v /\ m.p w = 3 /\ ∀ u, w < u -> u < v -> m.p u ≠ 3 := by
    intro n
    induction n using Nat.strongRecOn with
    | ind n ih =>
     intro w hw1 hw2 hw3 hn;by_cases hx : ∃ u, w < u /\ u < v /\ m.p u = 3
     ·obtain ⟨u, h1, h2, h3⟩ := hx;exact ih (v - u).toNat (by omega) u (by omega) h2 h3 rfl
     ·exact ⟨w, hw1, hw2, hw3, fun u h1 h2 h3 => hx ⟨u, h1, h2, h3⟩⟩
   exact hind _ k hk1 hk2 hk3 rfl
  obtain ⟨w, w1, w2, w3, w4⟩ := this;rw [zo6 w1 w2 w3 w4] at hv; omega
 rw [zkp key] at h; exact absurd h (by decide)
def rnV (n : Int) : Int := ([3, 4, 4, 5, 5, 3, 2, 6] : List Int).getD (n % 8).toNat 0
theorem zoa : ∀ k : Fin 8, 2 <= ([3, 4, 4, 5, 5, 3, 2, 6] : List Int).getD k.val 0 /\ ([3, 4, 4, 5, 5, 3, 2, 6] : List Int).getD k.val 0 <= 6 := by decide
theorem zkq (n : Int) : 2 <= rnV n /\ rnV n <= 6 := zoa ⟨(n % 8).toNat, by omega⟩
def rnS (i : Nat) (n : Int) : Sg := if n / 8 % 9 = 0 then ⟨2, rnV n, 0, 0, false, 0, false, false, ⟨0, 0, 0, 0⟩, false, 0, 0, 0, 0⟩
 else ⟨1, rnV n, (i : Int) % 9, 0, decide (n / 8 % 9 = 1) || decide (n / 8 % 9 = 2), 0, false, false, ⟨0, 0, 0, 0⟩, false, 0, 0, 0, 0⟩
def rnK (m : Mn) (nums : List Int) (most : Int) : Nat -> List Sg
 | 0 => []
 | k + 1 => match nums[k]? with
  | some x => if ((rnK m nums most k).length : Int) < most then
   (if x % 504 / 72 = 0 /\ ((rnK m nums most k).length : Int) + 1 < most /\ ((rnS k (x % 504)).Kind = 1 \/ abvK m (rnS k (x % 504)).Value = true)
    then rnK m nums most k ++ [rnS k (x % 504)] ++ [ze6] else rnK m nums most k ++ [rnS k (x % 504)]) else rnK m nums most k
  | none => rnK m nums most k
def rnL (m : Mn) (nums : List Int) (most : Int) : List Sg := rnK m nums most nums.length
theorem zob {m : Mn} {nums : List Int} {most : Int} {k : Nat} {x : Int} (hx : nums[k]? = some x) (h : ((rnK m nums most k).length : Int) < most) (hd : x % 504 / 72 = 0 /\ ((rnK m nums most k).length : Int) + 1 < most) (hk : (rnS k (x % 504)).Kind = 1 \/ abvK m (rnS k (x % 504)).Value = true) : rnK m nums most k ++ [rnS k (x % 504)] ++ [ze6] = rnK m nums most (k + 1) := by
 conv => rhs; unfold rnK
 rw [hx]; simp only [if_pos h, if_pos (show _ /\ _ /\ _ from ⟨hd.1, hd.2, hk⟩)]
theorem zoc {m : Mn} {nums : List Int} {most : Int} {k : Nat} {x : Int} (hx : nums[k]? = some x) (h : ((rnK m nums most k).length : Int) < most) (hd : ¬ (x % 504 / 72 = 0 /\ ((rnK m nums most k).length : Int) + 1 < most /\ ((rnS k (x % 504)).Kind = 1 \/ abvK m (rnS k (x % 504)).Value = true))) : rnK m nums most k ++ [rnS k (x % 504)] = rnK m nums most (k + 1) := by
 conv => rhs; unfold rnK
 rw [hx]; simp only [if_pos h, if_neg hd]
theorem ziM {m : Mn} {nums : List Int} {most : Int} {k : Nat} (h : most <= ((rnK m nums most k).length : Int)) : ∀ d, rnK m nums most (k + d) = rnK m nums most k
 | 0 => rfl
 | d + 1 => by
  show rnK m nums most ((k + d) + 1) = _;have ih := ziM h d;conv => lhs; unfold rnK
  rw [ih];split
  ·rw [if_neg (by omega)]
  ·rfl
theorem zhP (m : Mn) (nums : List Int) {most : Int} (h0 : 0 <= most) : ∀ k, ((rnK m nums most k).length : Int) <= most
 | 0 => h0
 | k + 1 => by
  have := zhP m nums h0 k;unfold rnK;split
  ·split
   ·split <;> simp <;> omega
   ·exact this
  ·exact this
def Gr (m : Mn) (l : List Sg) : Prop := ∀ (i : Nat) s, l[i]? = some s -> ((s.Kind = 1 \/ s.Kind = 2) /\ 1 <= s.Value /\ s.Value <= 8) \/ (s.Kind = 3 /\ ∃ (j : Nat) (p : Sg), i = j + 1 /\ l[j]? = some p /\ (p.Kind = 1 \/ (p.Kind = 2 /\ 1 <= p.Value /\ p.Value <= 8 /\ abvK m p.Value = true)))
theorem Gr.nil (m : Mn) : Gr m [] := fun i s h => by simp at h
theorem Gr.append {m : Mn} {a b : List Sg} (ha : Gr m a) (hb : Gr m b) : Gr m (a ++ b) := fun i s h => by
 rw [List.getElem?_append] at h;split at h
 ·rename_i hi;rcases ha i s h with h1 | ⟨h1, j, p, h2, h3, h4⟩
  ·exact .inl h1
  ·exact .inr ⟨h1, j, p, h2, by rw [List.getElem?_append, if_pos (by omega)]; exact h3, h4⟩
 ·rename_i hi;rcases hb _ s h with h1 | ⟨h1, j, p, h2, h3, h4⟩
  ·exact .inl h1
  ·refine .inr ⟨h1, j + a.length, p, by omega, ?_, h4⟩;rw [List.getElem?_append, if_neg (by omega), show j + a.length - a.length = j by omega]; exact h3
theorem ziN (i : Nat) (n : Int) : ((rnS i n).Kind = 1 \/ (rnS i n).Kind = 2) /\ 2 <= (rnS i n).Value /\ (rnS i n).Value <= 6 := by
 have := zkq n;unfold rnS;split
 ·exact ⟨.inr rfl, this⟩
 ·exact ⟨.inl rfl, this⟩
theorem zqM {m : Mn} (i : Nat) (n : Int) : Gr m [rnS i n] := fun j s h => by
 cases j with
 | zero =>
  have := ziN i n;simp at h; subst h; exact .inl ⟨this.1, by omega, by omega⟩
 | succ j => simp at h
theorem zqN {m : Mn} {i : Nat} {n : Int} (h : (rnS i n).Kind = 1 \/ abvK m (rnS i n).Value = true) : Gr m [rnS i n, ze6] := fun j s hs => by
 have hk := ziN i n;cases j with
 | zero => simp at hs; subst hs; exact .inl ⟨hk.1, by omega, by omega⟩
 | succ j =>
  cases j with
  | zero =>
   simp at hs; subst hs;refine .inr ⟨rfl, 0, rnS i n, rfl, rfl, ?_⟩;rcases hk.1 with h1 | h1
   ·exact .inl h1
   ·rcases h with h | h
    ·exact .inl h
    ·exact .inr ⟨h1, by omega, by omega, h⟩
  | succ j => simp at hs
theorem zlX (m : Mn) (nums : List Int) (most : Int) : ∀ k, Gr m (rnK m nums most k)
 | 0 => Gr.nil m
 | k + 1 => by
  have ih := zlX m nums most k;unfold rnK;split
  ·split
   ·split
    ·rename_i h;rw [List.append_assoc];exact ih.append (zqN h.2.2)
    ·exact ih.append (zqM _ _)
   ·exact ih
  ·exact ih
theorem zqO {m : Mn} {l : List Sg} (hm : ckM m = 0) (h : Gr m l) {i : Nat} {s : Sg} (hs : l[i]? = some s) : sgR m l i s = 0 := by
 unfold sgR;rcases h i s hs with ⟨h1, h2, h3⟩ | ⟨h1, j, p, rfl, h3, h4⟩
 ·rw [if_pos h1, if_pos ⟨h2, h3⟩]
 ·rw [if_neg (by omega), if_pos h1];simp only [h3];rw [if_neg];rcases h4 with h4 | ⟨h4, h5, h6, h7⟩
  ·omega
  ·have := zn9 hm (by omega) (by omega) h7;omega
theorem zeY {m : Mn} {l : List Sg} (h : ∀ (i : Nat) s, l[i]? = some s -> sgR m l i s = 0) : ∀ (n k : Nat), l.length - k = n -> zbf m l k (l.drop k) = 0
 | 0, k, hn => by rw [List.drop_of_length_le (by omega)]; rfl
 | n + 1, k, hn => by
  have hs : l[k]? = some l[k] := lgg (by omega);rw [zfP hs (h k _ hs)];exact zeY h n (k + 1) (by omega)
theorem zsm {m : Mn} {l : List Sg} (hm : ckM m = 0) (h : Gr m l) : ckD m l = 0 := by
 rw [zso]; unfold ckR; rw [if_pos hm];have := zeY (m := m) (fun i s hs => zqO hm h hs) l.length 0 rfl;simpa using this
theorem zqP (m : Mn) (nums : List Int) (most : Int) : Gr m (rnL m nums most) := zlX m nums most _
theorem zod (m : Mn) (nums : List Int) {most : Int} (h0 : 0 <= most) : ((rnL m nums most).length : Int) <= most := zhP m nums h0 _
theorem zqQ {m : Mn} {nums : List Int} {most : Int} {k : Nat} (hk : k <= nums.length) (h : (nums.length : Int) <= k \/ most <= ((rnK m nums most k).length : Int)) : rnK m nums most k = rnL m nums most := by
 unfold rnL;rcases h with h | h
 ·have : k = nums.length := by omega
  rw [this]
 ·have := ziM h (nums.length - k);rw [show k + (nums.length - k) = nums.length by omega] at this;exact this.symm
theorem zoe (n : Int) : ([3, 4, 4, 5, 5, 3, 2, 6] : List Int)[(n % 8).toNat]? = some (rnV n) := by
 unfold rnV;rw [List.getD_eq_getElem?_getD, lgg (by simp; omega)]; rfl
theorem zd0 {m : Mn} {nums : List Int} {most : Int} {k : Nat} {x : Int} {s : Sg} (hS : rnS k (x % 504) = s) (hx : nums[k]? = some x) (h : ((rnK m nums most k).length : Int) < most) (hd : (x % 504 / 72 = 0 /\ ((rnK m nums most k ++ [s]).length : Int) < most) /\ (s.Kind = 1 \/ abvK m s.Value = true)) : rnK m nums most k ++ [s] ++ [ze6] = rnK m nums most (k + 1) := by
 subst hS;exact zob hx h ⟨hd.1.1, by have := hd.1.2; simp at this; omega⟩ hd.2
theorem zd1 {m : Mn} {nums : List Int} {most : Int} {k : Nat} {x : Int} {s : Sg} (hS : rnS k (x % 504) = s) (hx : nums[k]? = some x) (h : ((rnK m nums most k).length : Int) < most) (hd : (¬ x % 504 / 72 = 0 \/ most <= ((rnK m nums most k ++ [s]).length : Int)) \/ (¬ s.Kind = 1 /\ abvK m s.Value = false)) : rnK m nums most k ++ [s] = rnK m nums most (k + 1) := by
 subst hS;refine zoc hx h fun e => ?_
 rcases hd with (h1 | h1) | h1
 ·exact h1 e.1
 ·simp at h1; omega
 ·rcases e.2.2 with h2 | h2
  ·exact h1.1 h2
  ·rw [h1.2] at h2; exact absurd h2 (by decide)
end Go.Rse
namespace Go.Rse
open Go Go.Proofs
end Go.Rse
namespace Go.Rse
open Go Go.Proofs
theorem zof {m : Mn} {l : List Sg} (h : Gr m l) : ∀ (i : Nat) z, l[i]? = some z -> z.Kind = 3 -> ∃ (j : Nat) (p : Sg), i = j + 1 /\ l[j]? = some p /\ ¬ p.Kind = 3 := fun i z hz h3 => by
 rcases h i z hz with h1 | ⟨_, j, p, h4, h5, h6⟩
 ·omega
 ·exact ⟨j, p, h4, h5, by rcases h6 with h | h <;> omega⟩
end Go.Rse
