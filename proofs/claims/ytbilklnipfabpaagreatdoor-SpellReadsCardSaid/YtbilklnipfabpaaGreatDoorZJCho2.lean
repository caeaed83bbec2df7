/-
  Plain: which readings are listed: those whose choices are allowed level by level; the test of a reading.
-/
import Derived.Test.YtbilklnipfabpaaGreatDoorZJItC0
import Derived.Test.YtbilklnipfabpaaGreatDoorZJCho7
import Derived.Test.YtbilklnipfabpaaGreatDoorZJKit1
import Derived.Test.YtbilklnipfabpaaGreatDoorZJItem1
import Derived.Test.YtbilklnipfabpaaGreatDoorZJLvl16
import Derived.Test.YtbilklnipfabpaaGreatDoorZJCmb0
set_option linter.unusedSimpArgs false
set_option linter.unusedVariables false
namespace Go.Rse
open Go Go.Proofs
theorem ziH {k : Int} {l l' : List Ite} (hl : l.length = l'.length) (h : ∀ i : Int, 0 <= i -> sameI (itg l i) (itg l' i)) : ∀ n, n <= l.length -> bdK k l n = bdK k l' n
 | 0, _ => rfl
 | n + 1, hn => by
  have hx : l[n]? = some (l[n]'hn) := lgg hn;have hx' : l'[n]? = some (l'[n]'(by omega)) := lgg (by omega);have hs := h (n : Int) (by omega);rw [zjN hx, zjN hx'] at hs;rw [za6 hx, za6 hx', ziH hl h n (by omega)];generalize l[n]'hn = x at *
  generalize l'[n]'(by omega) = x' at *
  obtain ⟨s1, s2, s3, s4, s5, s6⟩ := hs;unfold isH isC;rw [s2, s4, s6]
theorem zlL {m : Mn} {k : Int} {l : List Ite} (h : segE m k l = 0) : (segV m k l).length = (bds k l).length - 1 := by
 unfold segV; rw [if_pos h, List.length_map, zcR]
def Sam (I J : List Ite) : Prop := J.length = I.length /\ ∀ i : Int, 0 <= i -> sameI (itg J i) (itg I i)
theorem zqx (I : List Ite) : Sam I I := ⟨rfl, fun _ _ => zI _⟩
theorem Sam.segs {I J : List Ite} (h : Sam I J) {k : Int} : (bds k J).length = (bds k I).length := by
 unfold bds;rw [List.length_append, List.length_append, ziH h.1 h.2 J.length (Nat.le_refl _), h.1]
theorem znX {m : Mn} {k : Int} {I J : List Ite} {M : List Int} (h : Sam I J) (h0 : apE m k J M = 0) : Sam I (apV m k J M) := by
 obtain ⟨h1, h2, h3⟩ := zkE h0;have hst := zf9 (zcl h1) M.length (by omega) h3;unfold apV; rw [if_pos h0];exact ⟨hst.len.trans h.1, fun i hi => (hst.same i hi).tr (h.2 i hi)⟩
structure SamL (I : List Ite) (l : List Par) : Prop where
 s : ∀ p ∈ l, Sam I p.items
 n : ∀ p ∈ l, p.now = []
section
variable {m : Mn} {k : Int} {I : List Ite} {l : List Par}
theorem zlM {N : Int} (h : ∀ p ∈ l, segE m k p.items = 0 -> ((segV m k p.items).length : Int) = N) : ∀ a : Int, l.foldl (fun a p => if segE m k p.items = 0 then ((segV m k p.items).length : Int) else a) a = a /\ (∀ p ∈ l, ¬ segE m k p.items = 0) \/ l.foldl (fun a p => if segE m k p.items = 0 then ((segV m k p.items).length : Int) else a) a = N := by
 induction l with
 | nil => intro a; exact .inl ⟨rfl, by simp⟩
 | cons p r ih =>
  intro a;rw [List.foldl_cons];have ih := ih fun q hq => h q (List.mem_cons_of_mem _ hq)
  by_cases h0 : segE m k p.items = 0
  ·rw [if_pos h0, h p (by simp) h0];rcases ih N with h1 | h1
   ·exact .inr h1.1
   ·exact .inr h1
  ·rw [if_neg h0];rcases ih a with h1 | h1
   ·refine .inl ⟨h1.1, fun q hq => ?_⟩;rcases List.mem_cons.1 hq with rfl | hq
    ·exact h0
    ·exact h1.2 q hq
   ·exact .inr h1
theorem zjv (hS : SamL I l) {p : Par} (hp : p ∈ l) (h0 : segE m k p.items = 0) : (cgN m k l).toNat = (segV m k p.items).length := by
 have hN : ∀ q ∈ l, segE m k q.items = 0 -> ((segV m k q.items).length : Int) = ((segV m k p.items).length : Int) := fun q hq hq0 => by
  rw [zlL hq0, zlL h0, (hS.s q hq).segs, (hS.s p hp).segs]
 rcases zlM hN 0 with h1 | h1
 ·exact absurd h0 (h1.2 p hp)
 ·unfold cgN; rw [h1]; omega
theorem zhM (hS : SamL I l) {q : Par} : ∀ n, n <= (cgN m k l).toNat -> (q ∈ brN m k l n ↔ ∃ p ∈ l, segE m k p.items = 0 /\ ∃ M : List Int, M.length = n /\ okJ (unT m k) k (segV m k p.items) p.items M n = true /\ q = { p with now := M })
 | 0, _ => by
  show q ∈ cgS m k l ↔ _;unfold cgS;rw [List.mem_filter];constructor
  ·rintro ⟨h1, h2⟩
   refine ⟨q, h1, by simpa [cgP] using h2, [], rfl, rfl, ?_⟩;have := hS.n q h1;cases q; simp at this; subst this; rfl
  ·rintro ⟨p, hp, h0, M, hM, -, rfl⟩
   have : M = [] := List.length_eq_zero_iff.1 hM;subst this;have hn := hS.n p hp;have e : ({ p with now := [] } : Par) = p := by cases p; simp at hn; subst hn; rfl
   rw [e];exact ⟨hp, by simpa [cgP] using h0⟩
 | n + 1, hn => by
  have ih := fun q => zhM hS (q := q) n (by omega)
  show q ∈ brF m k (brN m k l n) ↔ _;unfold brF;rw [List.mem_flatMap]
  have hal : ∀ (p : Par), p ∈ l -> segE m k p.items = 0 -> ∀ M : List Int, M.length = n -> okJ (unT m k) k (segV m k p.items) p.items M n = true -> alV m k p.items M = alK (unT m k) k (segV m k p.items) p.items M n := by
   intro p hp h0 M hM hok;have hN := zjv hS hp h0
   have hE : alE m k p.items M = 0 := by
    unfold alE;rw [if_pos h0, if_neg];intro hc;rcases hc with hc | hc
    ·omega
    ·rw [hM, hok] at hc; cases hc
   unfold alV; rw [if_pos hE, hM]
  constructor
  ·rintro ⟨p', hp', hq⟩
   obtain ⟨p, hp, h0, M, hM, hok, rfl⟩ := (ih p').1 hp';unfold br1 at hq;obtain ⟨c, hc, rfl⟩ := List.mem_map.1 hq;have hc : c ∈ alV m k p.items M := hc;rw [hal p hp h0 M hM hok] at hc;refine ⟨p, hp, h0, M ++ [c], by simp [hM], ?_, rfl⟩;show (okJ _ k _ p.items (M ++ [c]) n && decide ((M ++ [c]).getD n 0 ∈ alK _ k _ p.items (M ++ [c]) n)) = true;rw [zie M [c] n (by omega), zid M [c] (by omega), hok, Bool.true_and, decide_eq_true_iff]
   have : (M ++ [c]).getD n 0 = c := by
    rw [List.getD_eq_getElem?_getD, List.getElem?_append_right (by omega), show n - M.length = 0 by omega]; rfl
   rw [this]; exact hc
  ·rintro ⟨p, hp, h0, M, hM, hok, rfl⟩
   have hok : (okJ (unT m k) k (segV m k p.items) p.items M n && decide (M.getD n 0 ∈ alK (unT m k) k (segV m k p.items) p.items M n)) = true := hok;simp only [Bool.and_eq_true, decide_eq_true_eq] at hok
   have hsp : M = M.take n ++ [M.getD n 0] := by
    have hx : M[n]? = some (M[n]'(by omega)) := lgg (by omega);rw [List.getD_eq_getElem?_getD, hx];conv => lhs; rw [← List.take_length (l := M), hM, List.take_add_one, hx]
    rfl
   have htl : (M.take n).length = n := by rw [List.length_take]; omega
   have e1 : okJ (unT m k) k (segV m k p.items) p.items (M.take n) n = true := by
    have := zie (u := unT m k) (k := k) (S := segV m k p.items) (l := p.items) (M.take n) [M.getD n 0] n (by omega);rw [← hsp] at this; rw [← this]; exact hok.1
   have e2 : M.getD n 0 ∈ alK (unT m k) k (segV m k p.items) p.items (M.take n) n := by
    have := zid (u := unT m k) (k := k) (S := segV m k p.items) (l := p.items) (M.take n) [M.getD n 0] (n := n) (by omega);rw [← hsp] at this; rw [← this]; exact hok.2
   refine ⟨{ p with now := M.take n }, (ih _).2 ⟨p, hp, h0, M.take n, htl, e1, rfl⟩, ?_⟩;unfold br1;refine List.mem_map.2 ⟨M.getD n 0, ?_, ?_⟩
   ·show _ ∈ alV m k p.items (M.take n);rw [hal p hp h0 _ htl e1]; exact e2
   ·show ({ p with now := M.take n ++ [M.getD n 0] } : Par) = { p with now := M };rw [← hsp]
theorem zkd : ∀ (n j : Nat), (brX m k n (brN m k l j)).2 = 0 -> (brX m k n (brN m k l j)).1 = brN m k l (j + n)
 | 0, j, _ => rfl
 | n + 1, j, h => by
  unfold brX at h ⊢;split at h
  ·cases h
  ·rename_i h2;rw [if_neg h2];have := zkd n (j + 1) h;rw [show j + (n + 1) = j + 1 + n by omega]; exact this
theorem zqy (h0 : alvE m k l = 0) : alvV m k l = (brN m k l (cgN m k l).toNat).map (ap1 m k) := by
 unfold alvV; rw [if_pos h0];have := zkd (m := m) (k := k) (l := l) (cgN m k l).toNat 0 h0;rw [Nat.zero_add] at this;unfold alvR; rw [show cgS m k l = brN m k l 0 from rfl, this]
theorem zfy (hS : SamL I l) (h0 : alvE m k l = 0) {q : Par} : q ∈ alvV m k l ↔ ∃ p ∈ l, ∃ M : List Int, apE m k p.items M = 0 /\ q = ⟨apV m k p.items M, [], p.made ++ M⟩ := by
 rw [zqy h0, List.mem_map];constructor
 ·rintro ⟨p', hp', rfl⟩
  obtain ⟨p, hp, h1, M, hM, hok, rfl⟩ := (zhM hS _ (Nat.le_refl _)).1 hp';have hN := zjv hS hp h1;refine ⟨p, hp, M, ?_, rfl⟩;unfold apE;rw [if_pos h1, if_neg];intro hc;rcases hc with hc | hc
  ·omega
  ·rw [hM, hok] at hc; cases hc
 ·rintro ⟨p, hp, M, hM, rfl⟩
  obtain ⟨h1, h2, h3⟩ := zkE hM;have hN := zjv hS hp h1;refine ⟨{ p with now := M }, (zhM hS _ (Nat.le_refl _)).2 ⟨p, hp, h1, M, by omega, ?_, rfl⟩, rfl⟩;rw [hN, h2]; exact h3
theorem znY (hS : SamL I l) (h0 : alvE m k l = 0) : SamL I (alvV m k l) := by
 constructor
 ·intro q hq;obtain ⟨p, hp, M, hM, rfl⟩ := (zfy hS h0).1 hq;exact znX (hS.s p hp) hM
 ·intro q hq;obtain ⟨p, hp, M, hM, rfl⟩ := (zfy hS h0).1 hq;rfl
end
def gLv (m : Mn) : List Int -> List Ite -> List Int -> List Ite -> Prop
 | [], I, C, J => C = [] /\ J = I
 | k :: r, I, C, J => ∃ M C', C = M ++ C' /\ apE m k I M = 0 /\ gLv m r (apV m k I M) C' J
theorem zke {m : Mn} {I : List Ite} : ∀ (L : List Int) (l : List Par), SamL I l -> (cmL m L l).2 = 0 -> ∀ q, (q ∈ (cmL m L l).1 ↔ ∃ p ∈ l, ∃ C J, gLv m L p.items C J /\ q = ⟨J, [], p.made ++ C⟩)
 | [], l, hS, h, q => by
  show q ∈ l ↔ _;constructor
  ·intro hq;refine ⟨q, hq, [], q.items, ⟨rfl, rfl⟩, ?_⟩;have := hS.n q hq;cases q; simp at this; subst this; simp
  ·rintro ⟨p, hp, C, J, ⟨rfl, rfl⟩, rfl⟩
   have := hS.n p hp;cases p; simp at this; subst this; simpa using hp
 | k :: r, l, hS, h, q => by
  simp only [cmL] at h ⊢;by_cases h0 : alvE m k l = 0
  ·rw [if_pos h0] at h ⊢;rw [zke r _ (znY hS h0) h q];constructor
   ·rintro ⟨p', hp', C, J, hg, rfl⟩
    obtain ⟨p, hp, M, hM, rfl⟩ := (zfy hS h0).1 hp';exact ⟨p, hp, M ++ C, J, ⟨M, C, rfl, hM, hg⟩, by simp⟩
   ·rintro ⟨p, hp, C, J, ⟨M, C', rfl, hM, hg⟩, rfl⟩
    exact ⟨_, (zfy hS h0).2 ⟨p, hp, M, hM, rfl⟩, C', J, hg, by simp⟩
  ·rw [if_neg h0] at h; cases h
section
variable {m : Mn} {l : List Sg}
theorem zkf {n : Int} (h : cmE m l n = 0) {r : Rdg} : r ∈ cmV m l n ↔ ∃ C J, gLv m (perfL m) (cmI m l n) C J /\ r = ⟨iofD m l n, iofM m l n, C, J.map (·.Dur)⟩ := by
 unfold cmV; rw [if_pos h, List.mem_map];have hS : SamL (cmI m l n) [⟨cmI m l n, [], []⟩] := ⟨fun p hp => by simp at hp; subst hp; exact zqx _, fun p hp => by simp at hp; subst hp; rfl⟩;have hm := zke (perfL m) _ hS h;constructor
 ·rintro ⟨q, hq, rfl⟩
  obtain ⟨p, hp, C, J, hg, rfl⟩ := (hm q).1 hq;simp at hp; subst hp;exact ⟨C, J, hg, rfl⟩
 ·rintro ⟨C, J, hg, rfl⟩
  exact ⟨⟨J, [], C⟩, (hm _).2 ⟨⟨cmI m l n, [], []⟩, by simp, C, J, hg, by simp⟩, rfl⟩
theorem zkg {r : Rdg} : ∀ N, r ∈ aqN m l N ↔ ∃ n : Nat, n < N /\ r ∈ cmV m l n
 | 0 => by simp [aqN]
 | N + 1 => by
  show r ∈ aqN m l N ++ cmV m l N ↔ _;rw [List.mem_append, zkg N];constructor
  ·rintro (⟨n, h1, h2⟩ | h)
   ·exact ⟨n, by omega, h2⟩
   ·exact ⟨N, by omega, h⟩
  ·rintro ⟨n, h1, h2⟩
   rcases Nat.lt_or_ge n N with h | h
   ·exact .inl ⟨n, h, h2⟩
   ·have : n = N := by omega
    subst this; exact .inr h2
theorem zhN : ∀ {N : Nat}, aqX m l N = true -> ∀ n : Nat, n < N -> cmE m l n = 0
 | 0, _, n, hn => by omega
 | N + 1, h, n, hn => by
  have h : (aqX m l N && decide (cmE m l N = 0) && decide ((aqN m l (N + 1)).length <= 4096)) = true := h;simp only [Bool.and_eq_true, decide_eq_true_eq] at h;rcases Nat.lt_or_ge n N with h1 | h1
  ·exact zhN h.1.1 n h1
  ·have : n = N := by omega
   subst this; exact h.1.2
theorem zkh (h : aqE m l = 0) : ictE m l = 0 /\ aqX m l (ictV m l).toNat = true /\ aqV m l = aqN m l (ictV m l).toNat /\ ¬ (aqV m l).length = 0 := by
 have hV : aqV m l = aqN m l (ictV m l).toNat := by unfold aqV; rw [if_pos h]
 rw [hV];unfold aqE at h;split at h
 ·rename_i h1;split at h
  ·rename_i h2;split at h
   ·cases h
   ·rename_i h3; exact ⟨h1, h2, rfl, h3⟩
  ·cases h
 ·exact absurd h (by assumption)
theorem zqz (h : aqE m l = 0) {r : Rdg} : r ∈ aqV m l ↔ ∃ n : Nat, (n : Int) < ictV m l /\ ∃ C J, gLv m (perfL m) (cmI m l n) C J /\ r = ⟨iofD m l n, iofM m l n, C, J.map (·.Dur)⟩ := by
 obtain ⟨h1, h2, h3, -⟩ := zkh h;rw [h3, zkg];constructor
 ·rintro ⟨n, hn, hr⟩
  exact ⟨n, by omega, (zkf (zhN h2 n hn)).1 hr⟩
 ·rintro ⟨n, hn, hr⟩
  exact ⟨n, by omega, (zkf (zhN h2 n (by omega))).2 hr⟩
end
theorem znZ {m : Mn} {l : List Sg} (hM : ckM m = 0) (hck : ckD m l = 0) (h : ictE m l = 0) {d mi : List Int} : itmE m l d mi = 0 ↔ ∃ n : Nat, (n : Int) < ictV m l /\ iofD m l n = d /\ iofM m l n = mi := by
 constructor
 ·intro hE;obtain ⟨h1, h2⟩ := zmm hE;obtain ⟨a1, a2⟩ := zjR h1;obtain ⟨-, b2, b3⟩ := zjH h2;rw [← zpY hck] at b2;have hc1 := zpV a1 (zbZ.1 a2) (mnsD m l).length (Nat.le_refl _);rw [List.take_length, a1, List.take_length] at hc1
  have hc2 : ∀ (r : List Int), mnOk r.reverse = true -> ChG (List.replicate r.length [1, 2] ++ (mnsD m l).reverse) (d ++ r.reverse) := by
   intro r
   induction r with
   | nil => intro _; simpa using hc1
   | cons x r ih =>
    intro hx;rw [List.reverse_cons] at hx ⊢;have hx1 : mnOk r.reverse = true := by unfold mnOk at hx ⊢; rw [List.all_append, Bool.and_eq_true] at hx; exact hx.1
    have hx2 : x = 1 \/ x = 2 := by unfold mnOk at hx; rw [List.all_append, Bool.and_eq_true] at hx; simpa using hx.2
    rw [List.length_cons, List.replicate_succ, List.cons_append, ← List.append_assoc];exact .snoc (by rcases hx2 with rfl | rfl <;> simp) (ih hx1)
  have hc := hc2 mi.reverse (by rw [List.reverse_reverse]; exact b3);rw [List.reverse_reverse, List.length_reverse, b2] at hc;obtain ⟨n, n0, n1, n2⟩ := zn5 (R := rP m l) hc (zlT hM hck);have hn : ((n.toNat : Nat) : Int) = n := Int.toNat_of_nonneg n0;have hlt : ((n.toNat : Nat) : Int) < ictV m l := by rw [hn, zlU h]; exact n1
  have he := zjx h hlt;have hG := zsl he;rw [hn, n2] at hG;have hl : (iofD m l n).length = d.length := by rw [hn] at he; rw [zkn he]; exact a1
  unfold cmb at hG;refine ⟨n.toNat, hlt, ?_, ?_⟩
  ·rw [hn]; exact List.append_inj_left hG hl
  ·rw [hn]; exact List.append_inj_right hG hl
 ·rintro ⟨n, hn, rfl, rfl⟩
  exact zlV hM hck (zjx h hn)
end Go.Rse
namespace Go.Rse
open Go Go.Proofs
attribute [local irreducible] Pur yD yE Ex X Fn Imp LeV LeB FnO It yH FnW FnOW
section
variable {m : Mn} {L : List Int} {I : List Ite} {C : List Int} {n : Nat} {k : Int}
end
attribute [local irreducible] segE segV apV apE itmV itmE perfL
end Go.Rse
namespace Go.Rse
open Go Go.Proofs
attribute [local irreducible] Pur yD yE Ex X Fn Imp LeV LeB FnO It yH FnW FnOW
end Go.Rse
namespace Go.Rse
open Go Go.Proofs Go.RowKit
attribute [local irreducible] Pur yD yE Ex X Fn Imp LeV LeB FnO It yH FnW FnOW
attribute [local irreducible] aqV aqE ckD
end Go.Rse
namespace Go.Rse
open Go Go.Proofs
section
variable (m : Mn) (l : List Sg)
end
end Go.Rse
namespace Go.Rse
open Go Go.Proofs
section
variable (m : Mn) (l : List Sg)
end
end Go.Rse
namespace Go.Rse
open Go Go.Proofs
end Go.Rse
namespace Go.Rse
open Go Go.Proofs
attribute [local irreducible] Pur yD yE Ex X Fn Imp LeV LeB FnO It yH
attribute [local irreducible] abvK rnK rnV rnS
theorem zY (m : Mn) (v : Int) (h8 : v <= 1000000) : Fn Tryz.prog 31 [mnA m, iv v] (.bool (abvK m v)) := by
 refine Fn.go Tryz.func31 Tryz.ntmps31 (fun g w d => ?_);apply yb;refine yG ?_;refine yd ?_;apply ye;apply yb;refine yd ?_;apply X.block
 refine zw (ι := Nat) (fun (k : Nat) => [(1, iv v), (2, .ptr 2 0 0 0), (5, iv (1 + (k : Int)))]) (fun (k : Nat) => [(2, .box (mnE m) 24)]) (fun (k : Nat) => (k : Int) <= 1000000 /\ ∀ u, 1 <= u -> u < 1 + (k : Int) -> ¬ m.p u = 3) (fun (k : Nat) => v.toNat - k) 0 (fun k hk => ?_) (hJ := by
  exact ⟨by omega, fun u h1 h2 => by omega⟩)
 obtain ⟨hk1, hk2⟩ := hk;apply ye;apply yb;refine yr ?_;refine ym rfl ?_ ?_<;>intro hc1
 ·apply yf;apply ye;apply X.block;apply yb;iterate 2 refine ya ?_
  refine yq (zd8 m (1 + (k : Int))) ?_;refine yd ?_;refine ym rfl ?_ ?_<;>intro hc2
  ·apply yb;refine yd ?_;refine X.ret ?_;refine yn ?_;all_goals (congr 1; exact (zlW (by omega) hc1 hc2).symm)
  apply yf;apply yc;refine yr ?_
  refine yY (k + 1) (hJ := by
   refine ⟨by omega, fun u h1 h2 => ?_⟩;by_cases e : u = 1 + (k : Int)
   ·rw [e]; exact hc2
   ·exact hk2 u h1 (by omega))
 ·apply X.exit;apply yb;refine yd ?_;refine X.ret ?_;refine yn ?_;all_goals (congr 1; exact (zkp fun u h1 h2 => hk2 u h1 (by omega)).symm)
set_option maxHeartbeats 2000000 in
theorem zfl (m : Mn) (nums : List Int) (most : Int) (h0 : 0 <= most) (h1 : most <= 1000) (hr : ∀ x, x ∈ nums -> -9223372036854775808 <= x /\ x <= 9223372036854775807) (hnl : nums.length <= maxLen) : Fn Tryz.prog 8 [mnA m, yh nums, iv most] (sgsA (rnL m nums most)) := by
 have hnl2 : nums.length <= 9223372036854775807 := hnl;have hq0 : [] = rnK m nums most 0 := by unfold rnK; rfl
 refine Fn.go Tryz.func8 Tryz.ntmps8 (fun g w d => ?_);apply yb;refine yG ?_;refine yd ?_;apply yb;refine yV intE [3, 4, 4, 5, 5, 3, 2, 6] ?_;refine yd ?_;apply ye;refine zm (Imp.freeze (k := 13) rfl) ?_;apply yc;refine yd ?_;iterate 2 apply ye
 refine zm (zg sgE 40 17 8 8 rfl rfl) ?_;apply yc;refine yd ?_;apply X.block
 refine zw (ι := Nat) (fun (k : Nat) => [(1, yh nums), (2, iv most), (3, .ptr 3 0 0 0), (7, yh [3, 4, 4, 5, 5, 3, 2, 6]), (8, .own 8), (9, iv (k : Int))]) (fun (k : Nat) => [(3, .box (mnE m) 24), (8, .row sgE (rnK m nums most k) 40 17)]) (fun (k : Nat) => k <= nums.length) (fun (k : Nat) => nums.length - k) 0 (fun k hk => ?_) (h0 := by
  exact yA)
 apply ye;apply yb;iterate 4 refine ya ?_
 refine ExF.at 4 ?_;refine yF ?_;iterate 4 refine ExF.gi ?_
 refine yC ?_;refine yd ?_;refine ym rfl ?_ ?_<;>intro hc1
 ·obtain ⟨x, hx⟩ : ∃ x, nums[k]? = some x := ⟨_, lgg (by omega)⟩;have hx2 : nums[(k : Int).toNat]? = some x := by simpa using hx
  have hxr := hr x (List.mem_of_getElem? hx);have h504 : 0 <= x % 504 /\ x % 504 < 504 := by omega
  have hml := zhP m nums h0 k;have hv := zoe (x % 504);have hvr := zkq (x % 504);apply yf;apply ye;apply X.block;apply yb;iterate 4 refine ya ?_
  refine yq (zbb x 504 hxr (by omega)) ?_;refine yd ?_;apply yb;iterate 8 refine ya ?_
  refine yJ ?_;refine yj ?_;apply Ex.nil;apply ye;apply yb;refine yr ?_;apply X.block;apply yb;refine yg ?_;refine ym rfl ?_ ?_<;>intro hc2
  ·have hS : rnS k (x % 504) = ⟨2, rnV (x % 504), 0, 0, false, 0, false, false, ⟨0, 0, 0, 0⟩, false, 0, 0, 0, 0⟩ := by unfold rnS; rw [if_pos hc2]
   apply yc;(iterate 3 refine ya ?_);refine yj ?_;apply Ex.nil;apply yb;(iterate 2 refine ya ?_);refine yV sgE [⟨2, rnV (x % 504), 0, 0, false, 0, false, false, ⟨0, 0, 0, 0⟩, false, 0, 0, 0, 0⟩] ?_;refine yj ?_;refine yd ?_;apply yb;(iterate 3 refine ya ?_);refine ExF.at 3 ?_;refine yF ?_;(iterate 4 refine ExF.gi ?_);refine yC ?_;refine yg ?_;apply yb;refine ya ?_;refine ExF.at 1 ?_;refine yF ?_;(iterate 7 refine ExF.gi ?_);refine ExF.cg (zY m (rnV (x % 504)) (by omega)) ?_;refine ExF.gi ?_;refine yC ?_;refine yd ?_;refine ym rfl ?_ ?_<;>intro hc3
   ·have hrow := zd0 hS hx hc1.2 hc3;apply yc;(iterate 2 refine ya ?_);refine yV sgE [ze6] ?_;refine yj ?_;refine yd ?_;apply yc;refine yr ?_;refine yY (k + 1) (hI := yA)
   ·have hrow := zd1 hS hx hc1.2 hc3;apply yf;apply yc;refine yr ?_;refine yY (k + 1) (hI := yA)
  ·apply ye;apply yb;refine yg ?_;refine ym rfl ?_ ?_<;>intro hc4
   ·apply yf;refine ym rfl ?_ ?_<;>intro hc5
    ·have hS : rnS k (x % 504) = ⟨1, rnV (x % 504), (k : Int) % 9, 0, true, 0, false, false, ⟨0, 0, 0, 0⟩, false, 0, 0, 0, 0⟩ := by unfold rnS; rw [if_neg hc2, hc4]; rfl
     apply yc;refine ya ?_;refine yj ?_;apply Ex.nil;apply yb;(iterate 2 refine ya ?_);refine yV sgE [⟨1, rnV (x % 504), (k : Int) % 9, 0, true, 0, false, false, ⟨0, 0, 0, 0⟩, false, 0, 0, 0, 0⟩] ?_;refine yj ?_;refine yd ?_;apply yb;(iterate 3 refine ya ?_);refine ExF.at 3 ?_;refine yF ?_;(iterate 4 refine ExF.gi ?_);refine yC ?_;refine yg ?_;apply yb;refine ya ?_;refine ExF.at 1 ?_;refine yF ?_;(iterate 7 refine ExF.gi ?_);refine ExF.cg (zY m (rnV (x % 504)) (by omega)) ?_;refine ExF.gi ?_;refine yC ?_;refine yd ?_;refine ym rfl ?_ ?_<;>intro hc6
     ·have hrow := zd0 hS hx hc1.2 hc6;apply yc;(iterate 2 refine ya ?_);refine yV sgE [ze6] ?_;refine yj ?_;refine yd ?_;apply yc;refine yr ?_;refine yY (k + 1) (hI := yA)
     ·have hrow := zd1 hS hx hc1.2 hc6;apply yf;apply yc;refine yr ?_;refine yY (k + 1) (hI := yA)
    ·omega
   ·apply yc;refine yg ?_;refine ym rfl ?_ ?_<;>intro hc7
    ·have hS : rnS k (x % 504) = ⟨1, rnV (x % 504), (k : Int) % 9, 0, true, 0, false, false, ⟨0, 0, 0, 0⟩, false, 0, 0, 0, 0⟩ := by unfold rnS; rw [if_neg hc2, hc7]; rfl
     apply yc;refine ya ?_;refine yj ?_;apply Ex.nil;apply yb;(iterate 2 refine ya ?_);refine yV sgE [⟨1, rnV (x % 504), (k : Int) % 9, 0, true, 0, false, false, ⟨0, 0, 0, 0⟩, false, 0, 0, 0, 0⟩] ?_;refine yj ?_;refine yd ?_;apply yb;(iterate 3 refine ya ?_);refine ExF.at 3 ?_;refine yF ?_;(iterate 4 refine ExF.gi ?_);refine yC ?_;refine yg ?_;apply yb;refine ya ?_;refine ExF.at 1 ?_;refine yF ?_;(iterate 7 refine ExF.gi ?_);refine ExF.cg (zY m (rnV (x % 504)) (by omega)) ?_;refine ExF.gi ?_;refine yC ?_;refine yd ?_;refine ym rfl ?_ ?_<;>intro hc8
     ·have hrow := zd0 hS hx hc1.2 hc8;apply yc;(iterate 2 refine ya ?_);refine yV sgE [ze6] ?_;refine yj ?_;refine yd ?_;apply yc;refine yr ?_;refine yY (k + 1) (hI := yA)
     ·have hrow := zd1 hS hx hc1.2 hc8;apply yf;apply yc;refine yr ?_;refine yY (k + 1) (hI := yA)
    ·have hS : rnS k (x % 504) = ⟨1, rnV (x % 504), (k : Int) % 9, 0, false, 0, false, false, ⟨0, 0, 0, 0⟩, false, 0, 0, 0, 0⟩ := by unfold rnS; rw [if_neg hc2, decide_eq_false hc4, decide_eq_false hc7]; rfl
     apply yf;apply yb;(iterate 2 refine ya ?_);refine yV sgE [⟨1, rnV (x % 504), (k : Int) % 9, 0, false, 0, false, false, ⟨0, 0, 0, 0⟩, false, 0, 0, 0, 0⟩] ?_;refine yj ?_;refine yd ?_;apply yb;(iterate 3 refine ya ?_);refine ExF.at 3 ?_;refine yF ?_;(iterate 4 refine ExF.gi ?_);refine yC ?_;refine yg ?_;apply yb;refine ya ?_;refine ExF.at 1 ?_;refine yF ?_;(iterate 7 refine ExF.gi ?_);refine ExF.cg (zY m (rnV (x % 504)) (by omega)) ?_;refine ExF.gi ?_;refine yC ?_;refine yd ?_;refine ym rfl ?_ ?_<;>intro hc9
     ·have hrow := zd0 hS hx hc1.2 hc9;apply yc;(iterate 2 refine ya ?_);refine yV sgE [ze6] ?_;refine yj ?_;refine yd ?_;apply yc;refine yr ?_;refine yY (k + 1) (hI := yA)
     ·have hrow := zd1 hS hx hc1.2 hc9;apply yf;apply yc;refine yr ?_;refine yY (k + 1) (hI := yA)
 ·have hfin : rnK m nums most k = rnL m nums most := zqQ (by omega) hc1;apply X.exit;apply yb;refine yg ?_;refine X.ret ?_;refine yo (Imp.freeze (k := 8) rfl) ?_;refine yn ?_;all_goals (rw [← hfin]; rfl)
end Go.Rse
namespace Go.Rse
open Go Go.Proofs
attribute [local irreducible] Pur yD yE Ex X Fn Imp LeV LeB FnO It yH FnW FnOW
attribute [local irreducible] abvK rnK rnV rnS aqV aqE rnL mMk atV
end Go.Rse
namespace Go.Rse
open Go Go.Proofs
section
variable {m : Mn} {k : Int}
end
section
variable {m : Mn} {l : List Sg}
theorem zqA (hck : ckD m l = 0) : aqE m l = 0 \/ aqE m l = 14 \/ aqE m l = 15 := by
 unfold aqE;split
 ·split
  ·split
   ·exact .inr (.inl rfl)
   ·exact .inl rfl
  ·exact .inr (.inr rfl)
 ·rename_i h; exact .inr (.inr (zqL hck h))
end
end Go.Rse
