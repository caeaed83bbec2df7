/-
  Choices at a level.
-/
import Derived.Test.YtkpbljifckjeoaaGreatDoorYJLvl12
set_option linter.unusedSimpArgs false
set_option linter.unusedVariables false
namespace Go.Rse
open Go Go.Proofs
section
def muF (m : Mn) (k : Int) (l : List Ite) (n : Nat) : List Int := (mdJ (unT m k) k (segV m k l) l n).getD []
def muI (m : Mn) (k : Int) (l : List Ite) (n : Nat) : Bool := (mdJ (unT m k) k (segV m k l) l n).isSome
section
variable {m : Mn} {k : Int} {l : List Ite} {n : Nat}
theorem zx7 : muF m k l 0 = [] := rfl
theorem zt9 : muI m k l 0 = true := rfl
theorem zeW (h : muI m k l n = true) : mdJ (unT m k) k (segV m k l) l n = some (muF m k l n) := by
 unfold muI at h;obtain ⟨M, e⟩ := Option.isSome_iff_exists.1 h;unfold muF; rw [e]; rfl
theorem ziS (h : muI m k l n = true) : (muF m k l n).length = n := (zgP (zeW h)).1
theorem zua (h : muI m k l n = true) : okJ (unT m k) k (segV m k l) l (muF m k l n) (muF m k l n).length = true := by
 rw [ziS h]; exact (zgP (zeW h)).2.1
abbrev akF (m : Mn) (k : Int) (l : List Ite) (n : Nat) : List Int := alK (unT m k) k (segV m k l) l (muF m k l n) (muF m k l n).length
theorem zxw {s : Sgm} {c : Int} (h : muI m k l n = true) (hs : (segV m k l)[n]? = some s) (hc : chF s (akF m k l n) = some c) : muI m k l (n + 1) = true /\ muF m k l n ++ [c] = muF m k l (n + 1) := by
 have h1 := znx (zeW h);unfold akF at hc;rw [ziS h] at hc;rw [show (segV m k l).getD n default = s by rw [List.getD_eq_getElem?_getD, hs]; rfl, hc] at h1;unfold muI; rw [h1];refine ⟨rfl, ?_⟩;conv => rhs; unfold muF
 rw [h1]; rfl
theorem zxx (h : ¬ segE m k l = 0) : cuE m k l = segE m k l /\ cuV m k l = [] := by
 have : cuE m k l = segE m k l := by unfold cuE; rw [if_neg h]
 refine ⟨this, ?_⟩; unfold cuV; rw [this, if_neg h]
theorem zxy {s : Sgm} (h0 : segE m k l = 0) (h : muI m k l n = true) (hs : (segV m k l)[n]? = some s) (hc : chF s (akF m k l n) = none) : cuE m k l = 14 /\ cuV m k l = [] := by
 have h1 := znx (zeW h);unfold akF at hc;rw [ziS h] at hc;rw [show (segV m k l).getD n default = s by rw [List.getD_eq_getElem?_getD, hs]; rfl, hc] at h1;have hl := (List.getElem?_eq_some_iff.1 hs).1
 have h2 : cuO m k l = none := by
  unfold cuO;have := zjT h1 ((segV m k l).length - (n + 1))
  rwa [show n + 1 + ((segV m k l).length - (n + 1)) = (segV m k l).length by omega] at this
 have : cuE m k l = 14 := by unfold cuE; rw [if_pos h0, h2]; rfl
 refine ⟨this, ?_⟩; unfold cuV; rw [this]; rfl
theorem zr1 (h0 : segE m k l = 0) (h : muI m k l n = true) (hn : n = (segV m k l).length) : cuE m k l = 0 /\ muF m k l n = cuV m k l := by
 have h2 : cuO m k l = some (muF m k l n) := by unfold cuO; rw [← hn]; exact zeW h
 have : cuE m k l = 0 := by unfold cuE; rw [if_pos h0, h2]; rfl
 refine ⟨this, ?_⟩; unfold cuV; rw [this, h2]; rfl
end
theorem zpf (u : Tm) (k : Int) (S : List Sgm) (l : List Ite) (M : List Int) (n : Nat) : (alK u k S l M n).length <= 5 := by
 unfold alK alQ alR;simp only [List.length_append];have h : ∀ (p : Prop) [Decidable p] (x : Int), (if p then [x] else []).length <= 1 := fun p _ x => by split <;> simp
 have a1 := h;refine Nat.le_trans (Nat.add_le_add (Nat.add_le_add (Nat.add_le_add (Nat.add_le_add (h _ _) (h _ _)) (h _ _)) (h _ _)) (h _ _)) (by omega)
end
section
def lvN (m : Mn) (L : List Int) (l : List Ite) : Nat -> List Int × List Ite
 | 0 => ([], l)
 | n + 1 => ((lvN m L l n).1 ++ cuV m (L.getD n 0) (lvN m L l n).2, apV m (L.getD n 0) (lvN m L l n).2 (cuV m (L.getD n 0) (lvN m L l n).2))
structure LvJ (m : Mn) (L : List Int) (l : List Ite) (n : Nat) : Prop where
 le : n <= L.length
 go : lvF m L l [] = lvF m (L.drop n) (lvN m L l n).2 (lvN m L l n).1
 len : (lvN m L l n).2.length = l.length
 cho : (lvN m L l n).1.length <= n * (2 * l.length + 2)
theorem zub (m : Mn) (L : List Int) (l : List Ite) : LvJ m L l 0 := ⟨by omega, rfl, rfl, by simp [lvN]⟩
theorem ziT {m : Mn} {k : Int} {l : List Ite} : (cuV m k l).length <= 2 * l.length + 2 := by
 by_cases h : cuE m k l = 0
 ·obtain ⟨h0, h1⟩ := zrg h;unfold cuO at h1;have := (zgP h1).1;have := zcy m k l;omega
 ·unfold cuV; rw [if_neg h]; simp
theorem ziU {m : Mn} {k : Int} {l : List Ite} {M : List Int} (h : apE m k l M = 0) : (apV m k l M).length = l.length := by
 unfold apV; rw [if_pos h]; exact zd2 _ _ _ _ _
theorem zlq {m : Mn} {L : List Int} {l : List Ite} {n : Nat} {k : Int} (hk : L[n]? = some k) : (lvN m L l n).1 ++ cuV m k (lvN m L l n).2 = (lvN m L l (n + 1)).1 /\ apV m k (lvN m L l n).2 (cuV m k (lvN m L l n).2) = (lvN m L l (n + 1)).2 := by
 have e : L.getD n 0 = k := by rw [List.getD_eq_getElem?_getD, hk]; rfl
 show _ = ((lvN m L l n).1 ++ cuV m (L.getD n 0) (lvN m L l n).2) /\ _ = apV m (L.getD n 0) (lvN m L l n).2 (cuV m (L.getD n 0) (lvN m L l n).2);rw [e]; exact ⟨rfl, rfl⟩
theorem LvJ.s {m : Mn} {L : List Int} {l : List Ite} {n : Nat} {k : Int} (h : LvJ m L l n) (hk : L[n]? = some k) (he : cuE m k (lvN m L l n).2 = 0) : LvJ m L l (n + 1) := by
 obtain ⟨e1, e2⟩ := zlq (m := m) (l := l) hk;have hlt := (List.getElem?_eq_some_iff.1 hk).1;refine ⟨by omega, ?_, ?_, ?_⟩
 ·rw [h.go, zjU hk, if_pos he, e1, e2]
 ·rw [← e2, ziU (zlC he), h.len]
 ·rw [← e1, List.length_append, Nat.add_mul, Nat.one_mul];have := h.cho;have := ziT (m := m) (k := k) (l := (lvN m L l n).2);rw [h.len] at this;omega
section
variable {m : Mn} {l : List Ite} {n : Nat} {k : Int}
theorem zxz (h : ¬ ckM m = 0) : leE m l = ckM m /\ leC m l = [] /\ leI m l = [] := by
 have : leE m l = ckM m := by unfold leE; rw [if_neg h]
 refine ⟨this, ?_, ?_⟩
 ·unfold leC; rw [this, if_neg h]
 ·unfold leI; rw [this, if_neg h]
theorem zxA (h : ckM m = 0) (h2 : ¬ ckIE l = 0) : leE m l = ckIE l /\ leC m l = [] /\ leI m l = [] := by
 have : leE m l = ckIE l := by unfold leE; rw [if_pos h, if_neg h2]
 refine ⟨this, ?_, ?_⟩
 ·unfold leC; rw [this, if_neg h2]
 ·unfold leI; rw [this, if_neg h2]
theorem zxB (h : ckM m = 0) (h2 : ckIE l = 0) (hJ : LvJ m (perfL m) l n) (hk : (perfL m)[n]? = some k) (he : ¬ cuE m k (lvN m (perfL m) l n).2 = 0) : leE m l = cuE m k (lvN m (perfL m) l n).2 /\ leC m l = [] /\ leI m l = [] := by
 have : leE m l = cuE m k (lvN m (perfL m) l n).2 := by unfold leE; rw [if_pos h, if_pos h2, hJ.go, zjU hk, if_neg he]
 refine ⟨this, ?_, ?_⟩
 ·unfold leC; rw [this, if_neg he]
 ·unfold leI; rw [this, if_neg he]
theorem zxC (h : ckM m = 0) (h2 : ckIE l = 0) (hJ : LvJ m (perfL m) l n) (hn : n = (perfL m).length) : leE m l = 0 /\ (lvN m (perfL m) l n).1 = leC m l /\ (lvN m (perfL m) l n).2 = leI m l := by
 have e : lvF m (perfL m) l [] = ((lvN m (perfL m) l n).1, (lvN m (perfL m) l n).2, 0) := by rw [hJ.go, hn, List.drop_length]; rfl
 have : leE m l = 0 := by unfold leE; rw [if_pos h, if_pos h2, e]
 refine ⟨this, ?_, ?_⟩
 ·unfold leC; rw [this, if_pos rfl, e]
 ·unfold leI; rw [this, if_pos rfl, e]
theorem zpg (m : Mn) : (perfL m).length <= 4 := by
 unfold perfL; exact List.length_filter_le _ _
theorem zr2 (hk : (perfL m)[n]? = some k) : 1 <= k /\ k <= 4 := by
 have h := List.mem_of_getElem? hk;rw [zfA] at h; exact ⟨h.1, h.2.1⟩
end
end
section
section
variable {m : Mn} {l : List Sg}
end
end
section
end
section
end
section
inductive ChG : List (List Int) -> List Int -> Prop
 | nil : ChG [] []
 | snoc {x : List Int} {R : List (List Int)} {r : List Int} {v : Int} (hv : v ∈ x) (h : ChG R r) : ChG (x :: R) (r ++ [v])
theorem zq9 {L : List (List Int)} {c : List Int} (hl : L.length = c.length) (h : ∀ (i : Nat) x v, L[i]? = some x -> c[i]? = some v -> v ∈ x) : ∀ k, k <= L.length -> ChG (L.take k).reverse (c.take k)
 | 0, _ => by simpa using ChG.nil
 | k + 1, hk => by
  have hx : L[k]? = some L[k] := lgg (by omega);have hv : c[k]? = some c[k] := lgg (by omega);rw [List.take_add_one, List.take_add_one, hx, hv];simp only [Option.toList_some, List.reverse_append, List.reverse_cons, List.reverse_nil, List.nil_append, List.cons_append];exact .snoc (h k _ _ hx hv) (zq9 hl h k (by omega))
theorem zr3 {R : List (List Int)} {r : List Int} (hc : ChG R r) : r.length = R.length /\ ∀ (i : Nat) x v, R.reverse[i]? = some x -> r[i]? = some v -> v ∈ x := by
 induction hc with
 | nil => exact ⟨rfl, fun i x v h => by simp at h⟩
 | @snoc x0 R r v0 hv _ ih =>
  refine ⟨by simp [ih.1], fun i x v hx hvv => ?_⟩;rw [List.reverse_cons, List.getElem?_append] at hx;rw [List.getElem?_append] at hvv;simp only [List.length_reverse] at hx;by_cases hi : i < R.length
  ·rw [if_pos hi] at hx;rw [if_pos (by omega)] at hvv;exact ih.2 i x v hx hvv
  ·rw [if_neg hi] at hx;rw [if_neg (by omega)] at hvv
   have e1 : i - R.length = 0 := by
    have := (List.getElem?_eq_some_iff.1 hx).1;simp at this; omega
   rw [e1] at hx;rw [ih.1, e1] at hvv;simp at hx hvv;subst hx; subst hvv; exact hv
theorem zuc {L : List (List Int)} {r : List Int} (hc : ChG L.reverse r) : L.length = r.length /\ chOk r L := by
 obtain ⟨h1, h2⟩ := zr3 hc;rw [List.reverse_reverse] at h2;exact ⟨by simpa using h1.symm, zgL.2 h2⟩
def zra (x : List Int) (c : Int) : Prop := (∃ a, x = [a] /\ c = a) \/ (∃ a b, x = [a, b] /\ a < b /\ (c = a \/ c = b))
theorem zjO {m : Mn} {l : List Sg} {i : Int} {p : Sg} (hM : ckM m = 0) (h1 : 1 <= p.Value) : zra (mngR m p) (zgr m l i p) := by
 have ha := zkM (m := m) h1;unfold zgr mngR;by_cases hK : p.Kind = 2
 ·simp only [hK, if_true]; exact .inl ⟨_, rfl, by simp⟩
 ·simp only [hK, if_false];by_cases hC : p.Color = true
  ·simp only [hC, if_true]; exact .inl ⟨0, rfl, by simp⟩
  ·simp only [hC, if_false];by_cases h2 : m.p p.Value = 2 /\ m.aV p.Value = 0
   ·simp only [h2, and_self, if_true]; exact .inl ⟨0, rfl, by simp⟩
   ·rw [if_neg h2];by_cases h3 : m.p p.Value = 2
    ·have h4 : ¬ m.aV p.Value = 0 := fun h => h2 ⟨h3, h⟩
     rw [if_pos h3];refine .inr ⟨0, m.aV p.Value, rfl, by omega, ?_⟩;rw [if_neg (by simp)];by_cases h5 : zeQ l i > p.Value
     ·rw [if_pos h5]; exact .inl (by simp [ownV])
     ·rw [if_neg h5]; exact .inr rfl
    ·rw [if_neg h3];by_cases h4 : m.aV p.Value = 0
     ·rw [if_pos h4]; exact .inl ⟨p.Value, rfl, by simp⟩
     ·rw [if_neg h4];refine .inr ⟨m.aV p.Value, p.Value, rfl, ha.2, ?_⟩;rw [if_neg (by simp)];by_cases h5 : zeQ l i > p.Value
      ·rw [if_pos h5];have h6 : ¬ m.aV p.Value = p.Value := by omega
       exact .inr (by simp [ownV, h4, h6])
      ·rw [if_neg h5]; exact .inl rfl
theorem zr4 {m : Mn} {l : List Sg} (hM : ckM m = 0) (hck : ckD m l = 0) {k : Nat} {x : List Int} {c : Int} (hx : (mnsD m l)[k]? = some x) (hc : (z7 m l)[k]? = some c) : zra x c := by
 rw [mnsD, List.getElem?_map] at hx;rw [z7, List.getElem?_map] at hc;cases hd : (y5 l l.length)[k]? with
 | none => simp [hd] at hx
 | some i =>
  simp [hd] at hx hc;obtain ⟨j, s, p, h1, h2, h3, h4, h5⟩ := zpE hck (List.mem_of_getElem? hd);obtain ⟨_, _, q1, q2, _, q3⟩ := zso hck h2 h3 h4;unfold mnAt at hx; rw [h5] at hx;unfold zcP at hc; rw [h5] at hc;have hx : mngs m p = x := hx;have hc : zaz m l i p = c := hc;rw [← hx, ← hc, znJ hM q1 q2 q3, q3];exact zjO hM q1
theorem zjP (m : Mn) (l : List Sg) : (z7 m l).length = (mnsD m l).length := by
 unfold z7 mnsD; simp
theorem zph {m : Mn} {l : List Sg} (hM : ckM m = 0) (hg : ckD m l = 0) : ChG (mnsD m l).reverse (z7 m l) := by
 have hlen := zjP m l
 have h := zq9 (L := mnsD m l) (c := z7 m l) hlen.symm (fun i x v hx hv => by
  rcases zr4 hM hg hx hv with ⟨a, rfl, rfl⟩ | ⟨a, b, rfl, hab, rfl | rfl⟩ <;> simp) (mnsD m l).length (Nat.le_refl _)
 rwa [List.take_length, ← hlen, List.take_length] at h
end
section
end
section
attribute [local irreducible] Pur yr yw Ex X Fn Imp LeV LeB FnO It yx
theorem zmJ {α : Type} {a b : List α} {k : Nat} {x : α} (ha : a[k]? = some x) (hb : b[k]? = some x) (h : a.take k = b.take k) : a.take (k + 1) = b.take (k + 1) := by
 rw [List.take_add_one, List.take_add_one, ha, hb, h]
theorem zpi {α : Type} {a b : List α} {k : Nat} (hl : a.length = b.length) (hk : a.length <= k) (h : a.take k = b.take k) : a = b := by
 rwa [List.take_of_length_le hk, List.take_of_length_le (by omega)] at h
theorem zud {α : Type} {a b : List α} {k : Nat} {x y : α} (ha : a[k]? = some x) (hb : b[k]? = some y) (h : x ≠ y) : a ≠ b := fun e => by
 subst e; rw [ha] at hb; injection hb with hb; exact h hb
theorem znq {a n : Int} (hn : 0 < n) : (a.tmod n < 0 -> a.tmod n + n = a % n) /\ (¬ a.tmod n < 0 -> a.tmod n = a % n) /\ -n < a.tmod n /\ a.tmod n < n := by
 rw [Int.tmod_eq_emod];have h0 := Int.emod_nonneg a (show n ≠ 0 by omega);have h1 := Int.emod_lt_of_pos a hn;split <;> omega
def mMk (n : Int) : Mn := ⟨2 + n % 16 / 8, 2 + n % 16 / 4 % 2, 2 + n % 16 / 2 % 2, 2 + n % 16 % 2⟩
theorem zr5 (n : Int) : ckM (mMk n) = 0 := by
 unfold ckM;rw [if_pos];unfold Mn.Ok two3 mMk;exact ⟨by show 2 + n % 16 / 8 = 2 \/ 2 + n % 16 / 8 = 3; omega, by show 2 + n % 16 / 4 % 2 = 2 \/ 2 + n % 16 / 4 % 2 = 3; omega, by show 2 + n % 16 / 2 % 2 = 2 \/ 2 + n % 16 / 2 % 2 = 3; omega, by show 2 + n % 16 % 2 = 2 \/ 2 + n % 16 % 2 = 3; omega⟩
attribute [local irreducible] gI mMk
theorem zt (a b : List Sg) (hl : a.length <= 4000000000) : Fn Tryz.prog 12 [sgsA a, sgsA b] (.bool (decide (a = b))) := by
 refine Fn.go Tryz.func12 Tryz.ntmps12 (fun g w d => ?_);refine gd ?_ ?_<;>intro hc1
 ·refine gq ?_;all_goals (congr 1; exact (decide_eq_false fun e => by subst e; omega).symm)
 refine gq ?_
 refine yS (ι := Nat) (fun (k : Nat) => [(0, sgsA a), (1, sgsA b), (5, iv (k : Int))]) (fun (k : Nat) => []) (fun (k : Nat) => k <= a.length /\ a.take k = b.take k) (fun (k : Nat) => a.length - k) 0 (fun k hk => ?_) (hJ := by
  exact ⟨by omega, rfl⟩)
 obtain ⟨hk1, hk2⟩ := hk;refine gd ?_ ?_<;>intro hc2
 ·obtain ⟨x, hx⟩ : ∃ x, a[k]? = some x := ⟨_, lgg (by omega)⟩;have hx2 : a[(k : Int).toNat]? = some x := by simpa using hx
  obtain ⟨y, hy⟩ : ∃ y, b[k]? = some y := ⟨_, lgg (by omega)⟩;have hy2 : b[(k : Int).toNat]? = some y := by simpa using hy
  refine gq ?_;refine zf [17,18,19,20,21,22,23,24,25] [0,0,3,7,0,0,48,112,255] mo ?_;iterate 9 refine yc ?_
  refine yE ?_;refine gd ?_ ?_<;>intro hc3
  ·refine gq ?_;all_goals (congr 1; exact (decide_eq_false (zud hx hy (by simpa using hc3))).symm)
  refine gq ?_
  refine yz (k + 1) (hJ := by
   exact ⟨by omega, zmJ hx (by rw [hy]; congr 1; first | exact (by simpa using hc3 : x = y).symm | (simp at hc3; exact hc3.symm)) hk2⟩)
 ·refine gq ?_;all_goals (congr 1; exact (decide_eq_true (zpi (by omega) (by omega) hk2)).symm)
theorem zbr (a n : Int) (ha : -9223372036854775808 <= a /\ a <= 9223372036854775807) (hn : 1 <= n /\ n <= 4611686018427387904) : Fn Tryz.prog 29 [iv a, iv n] (iv (a % n)) := by
 obtain ⟨ht1, ht2, ht3, ht4⟩ := znq (a := a) (n := n) (by omega);refine Fn.go Tryz.func29 Tryz.ntmps29 (fun g w d => ?_);refine gd ?_ ?_<;>intro hc1
 ·omega
 apply yp;apply yg;iterate 2 refine ya ?_
 refine zao (zrD rfl rfl (by omega)) rfl ?_;refine gd ?_ ?_<;>intro hc2
 ·refine gq ?_;all_goals (congr 1; exact ht1 (by omega))
 ·refine gq ?_;all_goals (congr 1; exact ht2 (by omega))
theorem zfz (n : Int) (hn : -9223372036854775808 <= n /\ n <= 9223372036854775807) : Fn Tryz.prog 30 [iv n] (mnA (mMk n)) := by
 unfold mMk;refine Fn.go Tryz.func30 Tryz.ntmps30 (fun g w d => ?_);refine gq ?_;refine yb (zbr n 16 hn (by omega)) ?_;refine gq ?_;refine RetQ.ret (.one (.cellA rfl rfl rfl rfl ty32 (LeV.eq ?_)));all_goals (first | rfl | (simp_all; done))
theorem zhR (n q : Int) (hn : 0 <= n /\ n <= 4611686018427387904) (hd : 1 <= q /\ q <= 4611686018427387904) : Fn Tryz.prog 36 [iv n, iv q] (tmA ⟨n / gI n q, q / gI n q⟩) := by
 refine Fn.go Tryz.func36 Tryz.ntmps36 (fun g w d => ?_);refine gq ?_
 refine yS (ι := Int × Int) (fun (p : Int × Int) => [(0, iv n), (1, iv q), (4, .ptr 4 0 0 0), (5, iv p.1), (6, iv p.2)]) (fun (p : Int × Int) => [(4, .box [iv 0, iv 0] 25)]) (fun (p : Int × Int) => 0 <= p.1 /\ 0 <= p.2 /\ gI p.1 p.2 = gI n q /\ (0 < p.1 \/ 0 < p.2)) (fun (p : Int × Int) => p.2.toNat) (n, q) (fun p hk => ?_) (hJ := by
  exact ⟨by dsimp only; omega, by dsimp only; omega, rfl, by dsimp only; omega⟩)
 obtain ⟨a, b⟩ := p;obtain ⟨k1, k2, k3, k4⟩ := hk;dsimp only at *
 refine gd ?_ ?_<;>intro hc1
 ·refine gq ?_
  refine yz ((b, a % b)) (hJ := by
   exact ⟨by dsimp only; omega, by dsimp only; exact Int.emod_nonneg _ (by omega), by dsimp only; rw [zjg (by omega) (by omega)]; exact k3, by dsimp only; omega⟩) (hm := by dsimp only; have := Int.emod_lt_of_pos a (show 0 < b by omega); omega)
 ·have hb0 : b = 0 := by omega
  subst hb0;rw [zjf k1] at k3;subst k3;have hgp := zeD (n := n) (d := q) (by omega);refine gd ?_ ?_<;>intro hc2
  ·omega
  refine gq ?_;refine zf [20,21,22,23,24,25] [0,0,3,0,0,24,63,127] mo ?_;iterate 6 refine yc ?_
  refine yE ?_;refine gq ?_;refine RetQ.ret (.one (.cellA rfl rfl rfl rfl ty25 (LeV.eq ?_)));all_goals (rfl)
end
section
end
section
end
section
theorem zpj {m : Mn} {l : List Sg} (hM : ckM m = 0) (hck : ckD m l = 0) : mkE m l (z7 m l) = 0 := by
 unfold mkE; rw [if_pos hck, if_pos (zuc (zph hM hck))]
theorem zpk {m : Mn} {l : List Sg} (hck : ckD m l = 0) : duE m l (twos (prL m l).length) = 0 := by
 unfold duE;rw [if_pos hck, if_pos ⟨zdt _, by unfold mnOk twos; rw [List.all_eq_true]; intro x hx; rw [(List.mem_replicate.1 hx).2]; rfl⟩]
end
section
attribute [local irreducible] Pur yr yw Ex X Fn Imp LeV LeB FnO It yx
attribute [local irreducible] mkC mkA mkE duV duE itK itOf ckD mulV mulE
set_option maxHeartbeats 4000000 in
theorem ziV (m : Mn) (l : List Sg) (ch mi : List Int) (hl : l.length <= 1000) (hmi : mi.length <= 1000) : Fn Tryz.prog 72 [mnA m, sgsA l, yf ch, yf mi] (.tup [itsA (itmV m l ch mi), iv (itmE m l ch mi)]) := by
 refine Fn.go Tryz.func72 Tryz.ntmps72 (fun g w d => ?_);refine gq ?_;refine yb (zal m l hl) ?_;refine gd ?_ ?_<;>intro hc1
 ·have hE : itmE m l ch mi = ckD m l := by rw [znf (by rw [zkD hc1]; exact hc1), zkD hc1]
  have hV : itmV m l ch mi = [] := zkE (by rw [hE]; exact hc1);apply yg;refine zh ?_;refine X.ret ?_;refine RetQ.imp (ye (ts := [(8, itsA []), (9, iv (ckD m l))]) (hs := [])) ?_;refine yi ?_ ?_;all_goals (first | (rw [hV]; done) | (rw [hE]; done) | (rw [hV]; rfl) | (rw [hE]; rfl))
 refine gq ?_;refine yb (zjE m l hl ch) ?_;refine gd ?_ ?_<;>intro hc2
 ·have hE : itmE m l ch mi = mkE m l ch := znf hc2;have hV : itmV m l ch mi = [] := zkE (by rw [hE]; exact hc2);apply yg;refine zh ?_;refine X.ret ?_;refine RetQ.imp (ye (ts := [(8, itsA []), (9, iv (mkE m l ch))]) (hs := [])) ?_;refine yi ?_ ?_;all_goals (first | (rw [hV]; done) | (rw [hE]; done) | (rw [hV]; rfl) | (rw [hE]; rfl))
 refine gq ?_;refine yb (ziL m l mi hl hmi) ?_;refine gd ?_ ?_<;>intro hc3
 ·have hE : itmE m l ch mi = duE m l mi := zng hc2;have hV : itmV m l ch mi = [] := zkE (by rw [hE]; exact hc3);apply yg;refine zh ?_;refine X.ret ?_;refine RetQ.imp (ye (ts := [(8, itsA []), (9, iv (duE m l mi))]) (hs := [])) ?_;refine yi ?_ ?_;all_goals (first | (rw [hV]; done) | (rw [hE]; done) | (rw [hV]; rfl) | (rw [hE]; rfl))
 have hE : itmE m l ch mi = 0 := (zng hc2).trans hc3;have hV := znh hE;apply yp;apply yg;refine yu ?_;iterate 2 apply yl
 refine X.imp (yL itE 120 12 15 201 rfl rfl) ?_;apply ym;refine zh ?_;apply X.block;have hr0 := ztJ l (mkC m l ch) (mkA m l ch) (duV m l mi);refine yS (ι := Nat) (fun (k : Nat) => [(11, yf (mkC m l ch)), (12, zcu (mkA m l ch)), (14, tmsA (duV m l mi)), (15, .own 201), (47, sgsA l), (48, iv l.length), (49, iv (k : Int))]) (fun (k : Nat) => [(201, .row itE (itK l (mkC m l ch) (mkA m l ch) (duV m l mi) k) 120 12)]) (fun (k : Nat) => k <= l.length) (fun (k : Nat) => l.length - k) 0 (fun k hk => ?_);refine gd ?_ ?_<;>intro hc4
 ·obtain ⟨s, hs⟩ : ∃ s, l[k]? = some s := ⟨_, lgg (by omega)⟩;have hs2 : l[(k : Int).toNat]? = some s := by simpa using hs
  have hnt := ziO l (mkC m l ch) (mkA m l ch) (duV m l mi) k;have hnl := zkB l k;refine gd ?_ ?_<;>intro hc5
  ·have hst := zll (c := mkC m l ch) (a := mkA m l ch) (d := duV m l mi) hs hc5;refine gq ?_;refine yz (k + 1)
  obtain ⟨x, y, z, hx, hy, hz, hmul, hlt, hm, v1, v8⟩ := ztK hc2 hc3 hs hc5;have hst := zrV hs hc5 hx hy hz;have hx2 : (mkC m l ch)[((itK l (mkC m l ch) (mkA m l ch) (duV m l mi) k).length : Int).toNat]? = some x := by rw [hnt]; simpa using hx
  have hy2 : (mkA m l ch)[((itK l (mkC m l ch) (mkA m l ch) (duV m l mi) k).length : Int).toNat]? = some y := by rw [hnt]; simpa using hy
  have hz2 : (duV m l mi)[((itK l (mkC m l ch) (mkA m l ch) (duV m l mi) k).length : Int).toNat]? = some z := by rw [hnt]; simpa using hz
  apply yp;apply yg;refine zh ?_;refine zdS ⟨[(11, yf (mkC m l ch)), (12, zcu (mkA m l ch)), (14, tmsA (duV m l mi)), (15, .own 201), (18, iv ((itK l (mkC m l ch) (mkA m l ch) (duV m l mi) k).length : Int)), (19, .ptr 19 0 0 0), (47, sgsA l), (48, iv l.length), (49, iv (k : Int))], [(201, .row itE (itK l (mkC m l ch) (mkA m l ch) (duV m l mi) k) 120 12), (19, .box [iv k, iv s.Value, .bool (decide (s.Kind = 2)), .bool (decide (s.Kind = 1) && s.Color), .bool false, iv x, iv z.N, iv z.D, iv 0, iv 0, iv 0, iv 0] 120)]⟩ (fun hJ17 => ?_) ?_
  ·refine zf [19,59,60,61,62,63,64,65,66,67,68,69,70,71,72,73,74,75,76,77,78,79,80] [0,0,2,0,8,24,0,64,192,448,960,1984,4032,0,0,24576,57344,0,0,393216,917504,2097151,0,8388607] mo ?_;(iterate 10 refine yc ?_);(iterate 2 refine ChM.gi ?_);(iterate 10 refine yc ?_);refine ChM.step rfl rfl rfl (zbn (k := 19) ziG) rfl ?_;refine yE ?_;refine Ex.mo ?_;apply Ex.nil;exact X.imp yd hJ17
  refine zdS ⟨[(11, yf (mkC m l ch)), (12, zcu (mkA m l ch)), (14, tmsA (duV m l mi)), (15, .own 201), (18, iv ((itK l (mkC m l ch) (mkA m l ch) (duV m l mi) k).length : Int)), (19, .ptr 19 0 0 0), (47, sgsA l), (48, iv l.length), (49, iv (k : Int))], [(201, .row itE (itK l (mkC m l ch) (mkA m l ch) (duV m l mi) k) 120 12), (19, .box [iv k, iv s.Value, .bool (decide (s.Kind = 2)), .bool (decide (s.Kind = 1) && s.Color), .bool false, iv x, iv z.N, iv z.D, iv 0, iv 1, iv 0, iv 1] 120)]⟩ (fun hJ18 => ?_) ?_
  ·apply ym;(iterate 3 refine ya ?_);refine Ex.mo ?_;refine ya ?_;refine Ex.mo ?_;apply Ex.nil;exact X.imp yd hJ18
  refine gd ?_ ?_<;>intro hc6
  ·rw [← ztL hc6] at hst;refine gq ?_;refine yb (zcY z ⟨3, 2⟩) ?_;refine gd ?_ ?_<;>intro hc7
   ·exact absurd hmul hc7
   refine gq ?_;refine yJ itE [itL k s true x (mulV z ⟨3, 2⟩)] ?_;refine gq ?_;refine yz (k + 1)
  refine gd ?_ ?_<;>intro hc8
  ·refine gd ?_ ?_<;>intro hc9
   ·rw [← zni hc6 (.inl hc8)] at hst;refine gq ?_;refine yJ itE [itL k s true x z] ?_;refine gq ?_;refine yz (k + 1)
   exact absurd hc8 hc9
  ·refine gd ?_ ?_<;>intro hc10
   ·refine gd ?_ ?_<;>intro hc11
    ·rw [← zni hc6 (.inr (.inl (by unfold clr; rw [decide_eq_true hc11.1, hc11.2]; rfl)))] at hst;refine gq ?_;refine yJ itE [itL k s true x z] ?_;refine gq ?_;refine yz (k + 1)
    exact absurd hc11 (fun hc11 => hc11.elim (fun h => h hc10.1) (fun h => by rw [hc10.2] at h; cases h))
   ·refine gd ?_ ?_<;>intro hc12
    ·rw [← zni hc6 (.inr (.inr hc12))] at hst;refine gq ?_;refine yJ itE [itL k s true x z] ?_;refine gq ?_;refine yz (k + 1)
    rw [← ztM hc6 hc8 (by unfold clr; rcases hc10 with h | h <;> simp [h]) hc12] at hst;refine gq ?_;refine yJ itE [itL k s false x z] ?_;refine gq ?_;refine yz (k + 1)
 ·have hkl : k = l.length := by omega
  subst hkl;apply X.exit;apply yg;refine zh ?_;refine X.ret ?_;refine RetQ.imp (Imp.freeze (k := 201) rfl) ?_;refine yi ?_ ?_;all_goals (first | (rw [hV]; done) | (rw [hE]; done) | (rw [hV]; rfl) | (rw [hE]; rfl))
end
section
attribute [local irreducible] Pur yr yw Ex X Fn Imp LeV LeB FnO It yx
attribute [local irreducible] mnsD ckD
end
section
attribute [local irreducible] Pur yr yw Ex X Fn Imp LeV LeB FnO It yx
attribute [local irreducible] mkC mkA mkE duV duE itK itOf ckD mulV mulE
end
section
attribute [local irreducible] Pur yr yw Ex X Fn Imp LeV LeB FnO It yx
attribute [local irreducible] ckD z7 twos prL
set_option maxHeartbeats 4000000 in
theorem zjQ (m : Mn) (l : List Sg) (hl : l.length <= 1000) : Fn Tryz.prog 71 [mnA m, sgsA l] (.tup [yf (if ckD m l = 0 then z7 m l else []), yf (twos (prL m l).length), iv (ckD m l)]) := by
 refine Fn.go Tryz.func71 Tryz.ntmps71 (fun g w d => ?_);refine gq ?_;refine yb (zkz m l hl) ?_;refine gd ?_ ?_<;>intro hc1
 ·have ht : [] = twos (prL m l).length := by rw [znK hc1]; unfold twos; rfl
  have hr : [] = (if ckD m l = 0 then z7 m l else []) := by rw [if_neg hc1]
  apply yg;refine zmo ?_;refine X.ret ?_;refine RetQ.imp (ye (ts := [(4, yf []), (5, yf []), (6, iv (ckD m l))]) (hs := [])) ?_;refine RetQ.ret (.many (by decide) (.cons (.tmp rfl (LeV.eq ?_)) (.cons (.tmp rfl (LeV.eq ?_)) (.cons (.tmp rfl (LeV.eq ?_)) .nil))));all_goals (first | exact congrArg yf ht | exact congrArg yf hr | rfl)
 refine gq ?_;refine yb (zi3 m l hl) ?_;refine gd ?_ ?_<;>intro hc2
 ·exact absurd hc1 hc2
 refine gq ?_;refine RetQ.ret (.many (by decide) (.cons (.tmp rfl (LeV.eq ?_)) (.cons (.tmp rfl (LeV.eq ?_)) (.cons (.tmp rfl (LeV.eq ?_)) .nil))));all_goals (first | rfl | exact congrArg (AV.int .i64) hc1.symm)
end
section
attribute [local irreducible] Pur yr yw Ex X Fn Imp LeV LeB FnO It yx
attribute [local irreducible] ckD z7 twos prL mnsD
end
end Go.Rse
namespace Go.Rse
open Go Go.Proofs Go.RowKit
attribute [local irreducible] Pur yr yw Ex X Fn Imp LeV LeB FnO It yx
theorem znr (m : Mn) (l : List Sg) (ch mi : List Int) : (itmV m l ch mi).length <= l.length := by
 unfold itmV; split
 ·rw [ziO]; exact zkB l _
 ·simp
attribute [local irreducible] itmE itmV z7 ckD twos prL
end Go.Rse
namespace Go.Rse
open Go Go.Proofs
def rdI (m : Mn) (l : List Sg) : List Ite := itmV m l (z7 m l) (twos (prL m l).length)
def rdE (m : Mn) (l : List Sg) : Int := if ckD m l = 0 then leE m (rdI m l) else ckD m l
def rdV (m : Mn) (l : List Sg) : Rdg := if rdE m l = 0 then ⟨z7 m l, twos (prL m l).length, leC m (rdI m l), (leI m (rdI m l)).map (·.Dur)⟩ else ⟨[], [], [], []⟩
section
variable {m : Mn} {l : List Sg}
theorem zrb (h : ckD m l = 0) : itmE m l (z7 m l) (twos (prL m l).length) = 0 := by
 unfold itmE;rw [if_pos (zpj (zgS h).1 h)]; exact zpk h
theorem zxD (h : ¬ ckD m l = 0) : rdE m l = ckD m l /\ rdV m l = ⟨[], [], [], []⟩ := by
 have : rdE m l = ckD m l := by unfold rdE; rw [if_neg h]
 refine ⟨this, ?_⟩; unfold rdV; rw [this, if_neg h]
theorem zxE (h : ckD m l = 0) (h2 : ¬ leE m (rdI m l) = 0) : rdE m l = leE m (rdI m l) /\ rdV m l = ⟨[], [], [], []⟩ := by
 have : rdE m l = leE m (rdI m l) := by unfold rdE; rw [if_pos h]
 refine ⟨this, ?_⟩; unfold rdV; rw [this, if_neg h2]
theorem zxF (h : ckD m l = 0) (h2 : leE m (rdI m l) = 0) : rdE m l = 0 /\ rdV m l = ⟨z7 m l, twos (prL m l).length, leC m (rdI m l), (leI m (rdI m l)).map (·.Dur)⟩ := by
 have : rdE m l = 0 := by unfold rdE; rw [if_pos h, h2]
 refine ⟨this, ?_⟩; unfold rdV; rw [this, if_pos rfl]
theorem zlr : (rdI m l).length <= l.length := znr _ _ _ _
end
theorem zls {m : Mn} : ∀ (L : List Int) (l : List Ite) (C : List Int), (lvF m L l C).2.1.length <= l.length
 | [], l, C => Nat.le_refl _
 | k :: r, l, C => by
  unfold lvF;split
  ·rename_i h;have := zls (m := m) r (apV m k l (cuV m k l)) (C ++ cuV m k l);rw [ziU (zlC h)] at this; exact this
  ·simp
theorem zlt (m : Mn) (l : List Ite) : (leI m l).length <= l.length := by
 unfold leI;split
 ·exact zls _ _ _
 ·simp
theorem zr6 {l : List Ite} {n : Nat} {x : Ite} (h : l[n]? = some x) : (l.take n).map (·.Dur) ++ [x.Dur] = (l.take (n + 1)).map (·.Dur) := by
 rw [List.take_add_one, h]; simp
end Go.Rse
