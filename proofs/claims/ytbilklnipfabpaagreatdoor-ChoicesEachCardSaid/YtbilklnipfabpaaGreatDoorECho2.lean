/-
  Plain: which readings are listed: those whose choices are allowed level by level; the test of a reading.
-/
import Derived.Test.YtbilklnipfabpaaGreatDoorEJRl0
set_option linter.unusedSimpArgs false
set_option linter.unusedVariables false
namespace Go.Rse
open Go Go.Proofs
theorem zjj {k : Int} {l l' : List Ite} (hl : l.length = l'.length) (h : ∀ i : Int, 0 <= i -> sameI (itg l i) (itg l' i)) : ∀ n, n <= l.length -> bdK k l n = bdK k l' n
 | 0, _ => rfl
 | n + 1, hn => by
  have hx : l[n]? = some (l[n]'hn) := lgg hn;have hx' : l'[n]? = some (l'[n]'(by omega)) := lgg (by omega);have hs := h (n : Int) (by omega);rw [zkw hx, zkw hx'] at hs;rw [zbf hx, zbf hx', zjj hl h n (by omega)];generalize l[n]'hn = x at *
  generalize l'[n]'(by omega) = x' at *
  obtain ⟨s1, s2, s3, s4, s5, s6⟩ := hs;unfold isH isC;rw [s2, s4, s6]
theorem zmF {m : Mn} {k : Int} {l : List Ite} (h : segE m k l = 0) : (segV m k l).length = (bds k l).length - 1 := by
 unfold segV; rw [if_pos h, List.length_map, zc7]
def Sam (I J : List Ite) : Prop := J.length = I.length /\ ∀ i : Int, 0 <= i -> sameI (itg J i) (itg I i)
theorem zrM (I : List Ite) : Sam I I := ⟨rfl, fun _ _ => zW _⟩
theorem Sam.segs {I J : List Ite} (h : Sam I J) {k : Int} : (bds k J).length = (bds k I).length := by
 unfold bds;rw [List.length_append, List.length_append, zjj h.1 h.2 J.length (Nat.le_refl _), h.1]
theorem zoT {m : Mn} {k : Int} {I J : List Ite} {M : List Int} (h : Sam I J) (h0 : apE m k J M = 0) : Sam I (apV m k J M) := by
 obtain ⟨h1, h2, h3⟩ := zh4 h0;have hst := zg0 (zb9 h1) M.length (by omega) h3;unfold apV; rw [if_pos h0];exact ⟨hst.len.trans h.1, fun i hi => (hst.same i hi).tr (h.2 i hi)⟩
structure SamL (I : List Ite) (l : List Par) : Prop where
 s : ∀ p ∈ l, Sam I p.items
 n : ∀ p ∈ l, p.now = []
section
variable {m : Mn} {k : Int} {I : List Ite} {l : List Par}
theorem zmG {N : Int} (h : ∀ p ∈ l, segE m k p.items = 0 -> ((segV m k p.items).length : Int) = N) : ∀ a : Int, l.foldl (fun a p => if segE m k p.items = 0 then ((segV m k p.items).length : Int) else a) a = a /\ (∀ p ∈ l, ¬ segE m k p.items = 0) \/ l.foldl (fun a p => if segE m k p.items = 0 then ((segV m k p.items).length : Int) else a) a = N := by
 induction l with
 | nil => intro a; exact .inl ⟨rfl, by simp⟩
 | cons p r ih =>
  intro a;rw [List.foldl_cons];have ih := ih fun q hq => h q (List.mem_cons_of_mem _ hq)
  by_cases h0 : segE m k p.items = 0
  ·rw [if_pos h0, h p (by simp) h0];rcases ih N with h1 | h1
   ·exact .inr h1.1
   ·exact .inr h1
  ·rw [if_neg h0];rcases ih a with h1 | h1
   ·refine .inl ⟨h1.1, fun q hq => ?_⟩;rcases List.mem_cons.1 hq with rfl | hq
    ·exact h0
    ·exact h1.2 q hq
   ·exact .inr h1
theorem zkc (hS : SamL I l) {p : Par} (hp : p ∈ l) (h0 : segE m k p.items = 0) : (cgN m k l).toNat = (segV m k p.items).length := by
 have hN : ∀ q ∈ l, segE m k q.items = 0 -> ((segV m k q.items).length : Int) = ((segV m k p.items).length : Int) := fun q hq hq0 => by
  rw [zmF hq0, zmF h0, (hS.s q hq).segs, (hS.s p hp).segs]
 rcases zmG hN 0 with h1 | h1
 ·exact absurd h0 (h1.2 p hp)
 ·unfold cgN; rw [h1]; omega
theorem ziw (hS : SamL I l) {q : Par} : ∀ n, n <= (cgN m k l).toNat -> (q ∈ brN m k l n ↔ ∃ p ∈ l, segE m k p.items = 0 /\ ∃ M : List Int, M.length = n /\ okJ (unT m k) k (segV m k p.items) p.items M n = true /\ q = { p with now := M })
 | 0, _ => by
  show q ∈ cgS m k l ↔ _;unfold cgS;rw [List.mem_filter];constructor
  ·rintro ⟨h1, h2⟩
   refine ⟨q, h1, by simpa [cgP] using h2, [], rfl, rfl, ?_⟩;have := hS.n q h1;cases q; simp at this; subst this; rfl
  ·rintro ⟨p, hp, h0, M, hM, -, rfl⟩
   have : M = [] := List.length_eq_zero_iff.1 hM;subst this;have hn := hS.n p hp;have e : ({ p with now := [] } : Par) = p := by cases p; simp at hn; subst hn; rfl
   rw [e];exact ⟨hp, by simpa [cgP] using h0⟩
 | n + 1, hn => by
  have ih := fun q => ziw hS (q := q) n (by omega)
  show q ∈ brF m k (brN m k l n) ↔ _;unfold brF;rw [List.mem_flatMap]
  have hal : ∀ (p : Par), p ∈ l -> segE m k p.items = 0 -> ∀ M : List Int, M.length = n -> okJ (unT m k) k (segV m k p.items) p.items M n = true -> alV m k p.items M = alK (unT m k) k (segV m k p.items) p.items M n := by
   intro p hp h0 M hM hok;have hN := zkc hS hp h0
   have hE : alE m k p.items M = 0 := by
    unfold alE;rw [if_pos h0, if_neg];intro hc;rcases hc with hc | hc
    ·omega
    ·rw [hM, hok] at hc; cases hc
   unfold alV; rw [if_pos hE, hM]
  constructor
  ·rintro ⟨p', hp', hq⟩
   obtain ⟨p, hp, h0, M, hM, hok, rfl⟩ := (ih p').1 hp';unfold br1 at hq;obtain ⟨c, hc, rfl⟩ := List.mem_map.1 hq;have hc : c ∈ alV m k p.items M := hc;rw [hal p hp h0 M hM hok] at hc;refine ⟨p, hp, h0, M ++ [c], by simp [hM], ?_, rfl⟩;show (okJ _ k _ p.items (M ++ [c]) n && decide ((M ++ [c]).getD n 0 ∈ alK _ k _ p.items (M ++ [c]) n)) = true;rw [zgo M [c] n (by omega), zgn M [c] (by omega), hok, Bool.true_and, decide_eq_true_iff]
   have : (M ++ [c]).getD n 0 = c := by
    rw [List.getD_eq_getElem?_getD, List.getElem?_append_right (by omega), show n - M.length = 0 by omega]; rfl
   rw [this]; exact hc
  ·rintro ⟨p, hp, h0, M, hM, hok, rfl⟩
   have hok : (okJ (unT m k) k (segV m k p.items) p.items M n && decide (M.getD n 0 ∈ alK (unT m k) k (segV m k p.items) p.items M n)) = true := hok;simp only [Bool.and_eq_true, decide_eq_true_eq] at hok
   have hsp : M = M.take n ++ [M.getD n 0] := by
    have hx : M[n]? = some (M[n]'(by omega)) := lgg (by omega);rw [List.getD_eq_getElem?_getD, hx];conv => lhs; rw [← List.take_length (l := M), hM, List.take_add_one, hx]
    rfl
   have htl : (M.take n).length = n := by rw [List.length_take]; omega
   have e1 : okJ (unT m k) k (segV m k p.items) p.items (M.take n) n = true := by
    have := zgo (u := unT m k) (k := k) (S := segV m k p.items) (l := p.items) (M.take n) [M.getD n 0] n (by omega);rw [← hsp] at this; rw [← this]; exact hok.1
   have e2 : M.getD n 0 ∈ alK (unT m k) k (segV m k p.items) p.items (M.take n) n := by
    have := zgn (u := unT m k) (k := k) (S := segV m k p.items) (l := p.items) (M.take n) [M.getD n 0] (n := n) (by omega);rw [← hsp] at this; rw [← this]; exact hok.2
   refine ⟨{ p with now := M.take n }, (ih _).2 ⟨p, hp, h0, M.take n, htl, e1, rfl⟩, ?_⟩;unfold br1;refine List.mem_map.2 ⟨M.getD n 0, ?_, ?_⟩
   ·show _ ∈ alV m k p.items (M.take n);rw [hal p hp h0 _ htl e1]; exact e2
   ·show ({ p with now := M.take n ++ [M.getD n 0] } : Par) = { p with now := M };rw [← hsp]
theorem zkU : ∀ (n j : Nat), (brX m k n (brN m k l j)).2 = 0 -> (brX m k n (brN m k l j)).1 = brN m k l (j + n)
 | 0, j, _ => rfl
 | n + 1, j, h => by
  unfold brX at h ⊢;split at h
  ·cases h
  ·rename_i h2;rw [if_neg h2];have := zkU n (j + 1) h;rw [show j + (n + 1) = j + 1 + n by omega]; exact this
theorem zmH (h0 : alvE m k l = 0) : alvV m k l = (brN m k l (cgN m k l).toNat).map (ap1 m k) := by
 unfold alvV; rw [if_pos h0];have := zkU (m := m) (k := k) (l := l) (cgN m k l).toNat 0 h0;rw [Nat.zero_add] at this;unfold alvR; rw [show cgS m k l = brN m k l 0 from rfl, this]
theorem zga (hS : SamL I l) (h0 : alvE m k l = 0) {q : Par} : q ∈ alvV m k l ↔ ∃ p ∈ l, ∃ M : List Int, apE m k p.items M = 0 /\ q = ⟨apV m k p.items M, [], p.made ++ M⟩ := by
 rw [zmH h0, List.mem_map];constructor
 ·rintro ⟨p', hp', rfl⟩
  obtain ⟨p, hp, h1, M, hM, hok, rfl⟩ := (ziw hS _ (Nat.le_refl _)).1 hp';have hN := zkc hS hp h1;refine ⟨p, hp, M, ?_, rfl⟩;unfold apE;rw [if_pos h1, if_neg];intro hc;rcases hc with hc | hc
  ·omega
  ·rw [hM, hok] at hc; cases hc
 ·rintro ⟨p, hp, M, hM, rfl⟩
  obtain ⟨h1, h2, h3⟩ := zh4 hM;have hN := zkc hS hp h1;refine ⟨{ p with now := M }, (ziw hS _ (Nat.le_refl _)).2 ⟨p, hp, h1, M, by omega, ?_, rfl⟩, rfl⟩;rw [hN, h2]; exact h3
theorem zoU (hS : SamL I l) (h0 : alvE m k l = 0) : SamL I (alvV m k l) := by
 constructor
 ·intro q hq;obtain ⟨p, hp, M, hM, rfl⟩ := (zga hS h0).1 hq;exact zoT (hS.s p hp) hM
 ·intro q hq;obtain ⟨p, hp, M, hM, rfl⟩ := (zga hS h0).1 hq;rfl
end
def gLv (m : Mn) : List Int -> List Ite -> List Int -> List Ite -> Prop
 | [], I, C, J => C = [] /\ J = I
 | k :: r, I, C, J => ∃ M C', C = M ++ C' /\ apE m k I M = 0 /\ gLv m r (apV m k I M) C' J
theorem zkV {m : Mn} {I : List Ite} : ∀ (L : List Int) (l : List Par), SamL I l -> (cmL m L l).2 = 0 -> ∀ q, (q ∈ (cmL m L l).1 ↔ ∃ p ∈ l, ∃ C J, gLv m L p.items C J /\ q = ⟨J, [], p.made ++ C⟩)
 | [], l, hS, h, q => by
  show q ∈ l ↔ _;constructor
  ·intro hq;refine ⟨q, hq, [], q.items, ⟨rfl, rfl⟩, ?_⟩;have := hS.n q hq;cases q; simp at this; subst this; simp
  ·rintro ⟨p, hp, C, J, ⟨rfl, rfl⟩, rfl⟩
   have := hS.n p hp;cases p; simp at this; subst this; simpa using hp
 | k :: r, l, hS, h, q => by
  simp only [cmL] at h ⊢;by_cases h0 : alvE m k l = 0
  ·rw [if_pos h0] at h ⊢;rw [zkV r _ (zoU hS h0) h q];constructor
   ·rintro ⟨p', hp', C, J, hg, rfl⟩
    obtain ⟨p, hp, M, hM, rfl⟩ := (zga hS h0).1 hp';exact ⟨p, hp, M ++ C, J, ⟨M, C, rfl, hM, hg⟩, by simp⟩
   ·rintro ⟨p, hp, C, J, ⟨M, C', rfl, hM, hg⟩, rfl⟩
    exact ⟨_, (zga hS h0).2 ⟨p, hp, M, hM, rfl⟩, C', J, hg, by simp⟩
  ·rw [if_neg h0] at h; cases h
section
variable {m : Mn} {l : List Sg}
theorem zix {n : Int} (h : cmE m l n = 0) {r : Rdg} : r ∈ cmV m l n ↔ ∃ C J, gLv m (perfL m) (cmI m l n) C J /\ r = ⟨iofD m l n, iofM m l n, C, J.map (·.Dur)⟩ := by
 unfold cmV; rw [if_pos h, List.mem_map];have hS : SamL (cmI m l n) [⟨cmI m l n, [], []⟩] := ⟨fun p hp => by simp at hp; subst hp; exact zrM _, fun p hp => by simp at hp; subst hp; rfl⟩;have hm := zkV (perfL m) _ hS h;constructor
 ·rintro ⟨q, hq, rfl⟩
  obtain ⟨p, hp, C, J, hg, rfl⟩ := (hm q).1 hq;simp at hp; subst hp;exact ⟨C, J, hg, rfl⟩
 ·rintro ⟨C, J, hg, rfl⟩
  exact ⟨⟨J, [], C⟩, (hm _).2 ⟨⟨cmI m l n, [], []⟩, by simp, C, J, hg, by simp⟩, rfl⟩
theorem zgb {r : Rdg} : ∀ N, r ∈ aqN m l N ↔ ∃ n : Nat, n < N /\ r ∈ cmV m l n
 | 0 => by simp [aqN]
 | N + 1 => by
  show r ∈ aqN m l N ++ cmV m l N ↔ _;rw [List.mem_append, zgb N];constructor
  ·rintro (⟨n, h1, h2⟩ | h)
   ·exact ⟨n, by omega, h2⟩
   ·exact ⟨N, by omega, h⟩
  ·rintro ⟨n, h1, h2⟩
   rcases Nat.lt_or_ge n N with h | h
   ·exact .inl ⟨n, h, h2⟩
   ·have : n = N := by omega
    subst this; exact .inr h2
theorem zgc : ∀ {N : Nat}, aqX m l N = true -> ∀ n : Nat, n < N -> cmE m l n = 0
 | 0, _, n, hn => by omega
 | N + 1, h, n, hn => by
  have h : (aqX m l N && decide (cmE m l N = 0) && decide ((aqN m l (N + 1)).length <= 4096)) = true := h;simp only [Bool.and_eq_true, decide_eq_true_eq] at h;rcases Nat.lt_or_ge n N with h1 | h1
  ·exact zgc h.1.1 n h1
  ·have : n = N := by omega
   subst this; exact h.1.2
theorem zjk (h : aqE m l = 0) : ictE m l = 0 /\ aqX m l (ictV m l).toNat = true /\ aqV m l = aqN m l (ictV m l).toNat /\ ¬ (aqV m l).length = 0 := by
 have hV : aqV m l = aqN m l (ictV m l).toNat := by unfold aqV; rw [if_pos h]
 rw [hV];unfold aqE at h;split at h
 ·rename_i h1;split at h
  ·rename_i h2;split at h
   ·cases h
   ·rename_i h3; exact ⟨h1, h2, rfl, h3⟩
  ·cases h
 ·exact absurd h (by assumption)
theorem ziy (h : aqE m l = 0) {r : Rdg} : r ∈ aqV m l ↔ ∃ n : Nat, (n : Int) < ictV m l /\ ∃ C J, gLv m (perfL m) (cmI m l n) C J /\ r = ⟨iofD m l n, iofM m l n, C, J.map (·.Dur)⟩ := by
 obtain ⟨h1, h2, h3, -⟩ := zjk h;rw [h3, zgb];constructor
 ·rintro ⟨n, hn, hr⟩
  exact ⟨n, by omega, (zix (zgc h2 n hn)).1 hr⟩
 ·rintro ⟨n, hn, hr⟩
  exact ⟨n, by omega, (zix (zgc h2 n (by omega))).2 hr⟩
end
def isG (m : Mn) : List Int -> List Ite -> List Int -> Option (List Ite × List Int)
 | [], I, C => some (I, C)
 | k :: r, I, C => if segE m k I = 0 /\ (segV m k I).length <= C.length /\ apE m k I (C.take (segV m k I).length) = 0 then isG m r (apV m k I (C.take (segV m k I).length)) (C.drop (segV m k I).length) else none
theorem zgd {m : Mn} : ∀ (L : List Int) (I : List Ite) (C : List Int) (J : List Ite) (D : List Int), isG m L I C = some (J, D) ↔ ∃ C', C = C' ++ D /\ gLv m L I C' J
 | [], I, C, J, D => by
  show some (I, C) = some (J, D) ↔ _;constructor
  ·intro h;injection h with h; injection h with h1 h2;exact ⟨[], by simp [h2], rfl, h1.symm⟩
  ·rintro ⟨C', rfl, rfl, rfl⟩; simp
 | k :: r, I, C, J, D => by
  unfold isG;constructor
  ·intro h;split at h
   ·rename_i hc;obtain ⟨C', e, hg⟩ := (zgd r _ _ J D).1 h;refine ⟨C.take (segV m k I).length ++ C', ?_, _, C', rfl, hc.2.2, hg⟩;rw [List.append_assoc, ← e, List.take_append_drop]
   ·cases h
  ·rintro ⟨C', rfl, M, C2, rfl, hM, hg⟩
   obtain ⟨h1, h2, h3⟩ := zh4 hM;have e1 : (M ++ C2 ++ D).take (segV m k I).length = M := by rw [h2, List.append_assoc, List.take_left]
   have e2 : (M ++ C2 ++ D).drop (segV m k I).length = C2 ++ D := by rw [h2, List.append_assoc, List.drop_left]
   rw [e1, e2, if_pos ⟨h1, by simp [h2], hM⟩];exact (zgd r _ _ J D).2 ⟨C2, rfl, hg⟩
def isqB (m : Mn) (l : List Sg) (r : Rdg) : Bool := decide (itmE m l r.Dots r.Minor = 0) && (match isG m (perfL m) (itmV m l r.Dots r.Minor) r.Choices with
 | some (J, D) => decide (D = []) && decide (J.map (·.Dur) = r.Durs)
 | none => false)
theorem zmI {m : Mn} {l : List Sg} {r : Rdg} : isqB m l r = true ↔ itmE m l r.Dots r.Minor = 0 /\ ∃ J, gLv m (perfL m) (itmV m l r.Dots r.Minor) r.Choices J /\ J.map (·.Dur) = r.Durs := by
 unfold isqB;rw [Bool.and_eq_true, decide_eq_true_iff];refine and_congr_right fun _ => ?_
 constructor
 ·intro h;cases hg : isG m (perfL m) (itmV m l r.Dots r.Minor) r.Choices with
  | none => rw [hg] at h; cases h
  | some p =>
   obtain ⟨J, D⟩ := p;rw [hg] at h;simp only [Bool.and_eq_true, decide_eq_true_eq] at h;obtain ⟨rfl, hd⟩ := h;obtain ⟨C', e, hg2⟩ := (zgd _ _ _ J []).1 hg;rw [List.append_nil] at e;subst e;exact ⟨J, hg2, hd⟩
 ·rintro ⟨J, hg, hd⟩
  rw [(zgd _ _ _ J []).2 ⟨_, (List.append_nil _).symm, hg⟩];simpa using hd
theorem zoV {m : Mn} {l : List Sg} (hM : ckM m = 0) (hck : ckD m l = 0) (h : ictE m l = 0) {d mi : List Int} : itmE m l d mi = 0 ↔ ∃ n : Nat, (n : Int) < ictV m l /\ iofD m l n = d /\ iofM m l n = mi := by
 constructor
 ·intro hE;obtain ⟨h1, h2⟩ := zsn hE;obtain ⟨a1, a2⟩ := znr h1;obtain ⟨-, b2, b3⟩ := zsm h2;rw [← zuh hck] at b2;have hc1 := znu a1 (zcW.1 a2) (mnsD m l).length (Nat.le_refl _);rw [List.take_length, a1, List.take_length] at hc1
  have hc2 : ∀ (r : List Int), mnOk r.reverse = true -> ChG (List.replicate r.length [1, 2] ++ (mnsD m l).reverse) (d ++ r.reverse) := by
   intro r
   induction r with
   | nil => intro _; simpa using hc1
   | cons x r ih =>
    intro hx;rw [List.reverse_cons] at hx ⊢;have hx1 : mnOk r.reverse = true := by unfold mnOk at hx ⊢; rw [List.all_append, Bool.and_eq_true] at hx; exact hx.1
    have hx2 : x = 1 \/ x = 2 := by unfold mnOk at hx; rw [List.all_append, Bool.and_eq_true] at hx; simpa using hx.2
    rw [List.length_cons, List.replicate_succ, List.cons_append, ← List.append_assoc];exact .snoc (by rcases hx2 with rfl | rfl <;> simp) (ih hx1)
  have hc := hc2 mi.reverse (by rw [List.reverse_reverse]; exact b3);rw [List.reverse_reverse, List.length_reverse, b2] at hc;obtain ⟨n, n0, n1, n2⟩ := zk7 (R := rP m l) hc (ziM hM hck);have hn : ((n.toNat : Nat) : Int) = n := Int.toNat_of_nonneg n0;have hlt : ((n.toNat : Nat) : Int) < ictV m l := by rw [hn, zfi h]; exact n1
  have he := zfj h hlt;have hG := zlb he;rw [hn, n2] at hG;have hl : (iofD m l n).length = d.length := by rw [hn] at he; rw [zgi he]; exact a1
  unfold cmb at hG;refine ⟨n.toNat, hlt, ?_, ?_⟩
  ·rw [hn]; exact List.append_inj_left hG hl
  ·rw [hn]; exact List.append_inj_right hG hl
 ·rintro ⟨n, hn, rfl, rfl⟩
  exact zny hM hck (zfj h hn)
theorem zmJ {m : Mn} {l : List Sg} (hM : ckM m = 0) (hck : ckD m l = 0) (h : aqE m l = 0) (r : Rdg) : isqB m l r = decide (r ∈ aqV m l) := by
 have h1 := (zjk h).1;rw [Bool.eq_iff_iff, zmI, decide_eq_true_iff, ziy h, zoV hM hck h1];constructor
 ·rintro ⟨⟨n, hn, e1, e2⟩, J, hg, hd⟩
  refine ⟨n, hn, r.Choices, J, ?_, ?_⟩
  ·unfold cmI; rw [e1, e2]; exact hg
  ·rw [e1, e2, hd]
 ·rintro ⟨n, hn, C, J, hg, rfl⟩
  exact ⟨⟨n, hn, rfl, rfl⟩, J, hg, rfl⟩
theorem zgC {m : Mn} {I : List Ite} (h0 : ckM m = 0) (h1 : ckIE I = 0) (h : leE m I = 0) : ∀ d n, n + d = (perfL m).length -> ∃ C, gLv m ((perfL m).drop n) (lvN m (perfL m) I n).2 C (leI m I) /\ leC m I = (lvN m (perfL m) I n).1 ++ C
 | 0, n, hn => by
  have hn : n = (perfL m).length := by omega
  subst hn;obtain ⟨e1, e2⟩ := zod h0 h1 h;refine ⟨[], ?_, by rw [e1]; simp⟩;rw [List.drop_length];exact ⟨rfl, e2.symm⟩
 | d + 1, n, hn => by
  have hk : (perfL m)[n]? = some ((perfL m)[n]'(by omega)) := lgg (by omega);obtain ⟨C, hg, hC⟩ := zgC h0 h1 h d (n + 1) (by omega);obtain ⟨-, -, -, p4, p5, p6⟩ := zqa h0 h1 h hk;obtain ⟨e1, e2⟩ := zgq (m := m) (l := I) hk;refine ⟨cuV m ((perfL m)[n]'(by omega)) (lvN m (perfL m) I n).2 ++ C, ?_, ?_⟩
  ·rw [List.drop_eq_getElem_cons (show n < (perfL m).length by omega)];exact ⟨_, C, rfl, p5, by rw [p6]; exact hg⟩
  ·rw [hC, ← e1, List.append_assoc]
theorem zmK {m : Mn} {l : List Sg} (hck : ckD m l = 0) (h : aqE m l = 0) (he : rdE m l = 0) : rdV m l ∈ aqV m l := by
 have hM := (zak hck).1;have h1 := (zjk h).1;have hle : leE m (rdI m l) = 0 := by unfold rdE at he; rw [if_pos hck] at he; exact he
 obtain ⟨-, hI⟩ := zs4 hle;obtain ⟨n0, hn, hn2⟩ := zjB hM hck h1;obtain ⟨e1, e2⟩ := (hn2 n0 hn).2 rfl;obtain ⟨C, hg, hC⟩ := zgC hM hI hle (perfL m).length 0 (by omega);rw [List.drop_zero] at hg;have hC : leC m (rdI m l) = C := by simpa [lvN] using hC
 rw [(zul hck hle).2, ziy h];refine ⟨n0, hn, C, leI m (rdI m l), ?_, ?_⟩
 ·unfold cmI; rw [e1, e2]; exact hg
 ·rw [e1, e2, hC]
end Go.Rse
