/-
  Plain: the reading by the rule: its items are valid, what stays as it was, which errors there are.
-/
import Derived.Test.YtbilklnipfabpaaGreatDoorEJItem3
import Derived.Test.YtbilklnipfabpaaGreatDoorEJItC0
import Derived.Test.YtbilklnipfabpaaGreatDoorEJKit1
import Derived.Test.YtbilklnipfabpaaGreatDoorEJNeqf
set_option linter.unusedSimpArgs false
set_option linter.unusedVariables false
namespace Go.Rse
open Go Go.Proofs
theorem zob {m : Mn} {s : Sg} (hM : ckM m = 0) (h1 : 1 <= s.Value) (h8 : s.Value <= 8) : ∀ v ∈ mngs m s, 0 <= v /\ v <= 8 := by
 intro v hv;have ha := ziK (m := m) h1;by_cases hz : s.Kind = 2 /\ m.aV s.Value = 0
 ·have := (zdB hM h1 h8).2 hz;rw [List.length_eq_zero_iff.1 this] at hv; simp at hv
 ·rw [zkr hM h1 h8 hz] at hv;unfold mngR at hv
  repeat' (split at hv)
  all_goals (simp at hv; omega)
theorem zp8 {m : Mn} {l : List Sg} {ch : List Int} (h : mkE m l ch = 0) {k : Nat} {s : Sg} (hs : l[k]? = some s) (h3 : ¬ s.Kind = 3) : 0 <= (zQ ch l l.length k).1 /\ (zQ ch l l.length k).1 <= 8 := by
 obtain ⟨hM, v1, v8⟩ := zbD (zgM h) hs h3;unfold zQ;cases hz : l[k + 1]? with
 | none => exact ⟨Int.le_refl 0, show (0 : Int) <= 8 by decide⟩
 | some z =>
  simp only;split
  ·rename_i hd;have hat := zjw hz hd.2 l.length hd.1;obtain ⟨e1, e2⟩ := znr h
   have hmn : (mnsD m l)[(yR l (k + 1)).length]? = some (mngs m s) := by
    unfold mnsD;rw [List.getElem?_map, hat];show some (mnAt m l ((k + 1 : Nat) : Int)) = _;unfold mnAt zeo;rw [show (((k + 1 : Nat) : Int) - 1).toNat = k by omega, hs]
   have hlt := (List.getElem?_eq_some_iff.1 hmn).1;obtain ⟨v, hv⟩ : ∃ v, ch[(yR l (k + 1)).length]? = some v := ⟨_, lgg (by omega)⟩;have hmem := zcW.1 e2 _ _ _ hmn hv;show 0 <= ch.getD (yR l (k + 1)).length 0 /\ ch.getD (yR l (k + 1)).length 0 <= 8;rw [zbT hv];exact zob hM v1 v8 v hmem
  ·exact ⟨Int.le_refl 0, show (0 : Int) <= 8 by decide⟩
def okT (m : Mn) (v : Int) : Bool := decide (ckT (fullT m v) = 0) && decide (ckT (durT m v) = 0) && decide (ckT (mulV (fullT m v) ⟨3, 2⟩) = 0) && decide (ckT (mulV (durT m v) ⟨3, 2⟩) = 0)
theorem zp9 : zfF okT = true := by kernel_rfl
theorem zs1 {m : Mn} {s : Sg} {z : Tm} (hm : ckM m = 0) (h1 : 1 <= s.Value) (h8 : s.Value <= 8) (hz : z = bsT m s \/ z = ⟨3, 2⟩ \/ z = ⟨1, 2⟩) : ckT z = 0 /\ ckT (mulV z ⟨3, 2⟩) = 0 := by
 have h := zbu zp9 hm h1 h8;unfold okT at h;simp only [Bool.and_eq_true, decide_eq_true_eq] at h;rcases hz with rfl | rfl | rfl
 ·unfold bsT; split
  ·exact ⟨h.1.1.2, h.2⟩
  ·exact ⟨h.1.1.1, h.1.2⟩
 ·exact ⟨by decide +kernel, by decide +kernel⟩
 ·exact ⟨by decide +kernel, by decide +kernel⟩
theorem zrr {m : Mn} {l : List Sg} {ch mi : List Int} (h1 : mkE m l ch = 0) {k : Nat} {s : Sg} (hs : l[k]? = some s) (h3 : ¬ s.Kind = 3) : itP (iTM m l ch mi k s) := by
 obtain ⟨hM, v1, v8⟩ := zbD (zgM h1) hs h3;have hc := zp8 h1 hs h3
 have hz : ∀ z, z = (mget (k : Int) (duM m l mi)).getD (bsT m s) -> z = bsT m s \/ z = ⟨3, 2⟩ \/ z = ⟨1, 2⟩ := by
  intro z hz;cases hq : mget (k : Int) (duM m l mi) with
  | none => rw [hq] at hz; exact .inl hz
  | some x => rw [hq] at hz; exact .inr (by rw [show z = x from hz]; exact za1 _ _ _ _ _ hq)
 have hz := hz _ rfl;unfold iTM;generalize (mget (k : Int) (duM m l mi)).getD (bsT m s) = z at *
 generalize (zQ ch l l.length k).1 = c at *
 generalize (zQ ch l l.length k).2 = a at *
 have hp := zpi hM v1 v8 hz;have ho := zs1 hM v1 v8 hz;have e01 : ckT ⟨0, 1⟩ = 0 := by decide +kernel
 refine ⟨zku ⟨⟨v1, v8, hc.1, hc.2⟩, ?_, e01, e01, ?_⟩, ?_⟩
 ·show ckT (if a = true then mulV z ⟨3, 2⟩ else z) = 0;split
  ·exact ho.2
  ·exact ho.1
 ·intro hk;have hk : (decide (s.Kind = 2) = true /\ clr s = true) \/ ((decide (s.Kind = 2) = true \/ clr s = true) /\ (a || decide (s.Kind = 2) || clr s || decide (c = s.Value)) = false) := hk;simp only [Bool.or_eq_false_iff] at hk;rcases hk with ⟨h4, h5⟩ | ⟨h4 | h4, h5⟩
  ·have h4 := of_decide_eq_true h4;unfold clr at h5; rw [h4] at h5; simp at h5
  ·rw [h5.1.1.2] at h4; cases h4
  ·rw [h5.1.2] at h4; cases h4
 ·show 1 <= (if a = true then mulV z ⟨3, 2⟩ else z).N;split
  ·exact hp.2
  ·exact hp.1
theorem zuL {m : Mn} {l : List Sg} {ch mi : List Int} (h1 : mkE m l ch = 0) (h2 : duE m l mi = 0) (hD : zcy l) : ∀ x ∈ itmV m l ch mi, itP x := by
 intro x hx;obtain ⟨i, hi⟩ := List.mem_iff_getElem?.1 hx;have hi2 := hi;rw [zgN (by unfold itmE; rw [if_pos h1, h2])] at hi;obtain ⟨k, s, hk, hs, h3, hn, hx2⟩ := zfh l.length hi;have hg := zno h1 h2 hD hs h3;rw [hn, hi2] at hg;injection hg with hg;rw [hg];exact zrr h1 hs h3
theorem zuM {m : Mn} (hM : ckM m = 0) {k : Int} (hk : k ∈ perfL m) : unE m k = 0 := by
 rw [zdG] at hk;unfold unE; rw [if_pos hM, if_pos hk]
section
variable {m : Mn} {l : List Sg}
theorem zuN (h0 : ckD m l = 0) (hD : zcy l) : ∀ x ∈ rdI m l, itP x := zuL (ziR (zak h0).1 h0) (ziS h0) hD
theorem zs2 (h0 : ckD m l = 0) (hD : zcy l) : ckIE (rdI m l) = 0 := ziU fun x hx => (zuN h0 hD x hx).1
theorem zs3 (h0 : ckD m l = 0) (hD : zcy l) : rdE m l = (lvF m (perfL m) (rdI m l) []).2.2 := by
 unfold rdE leE; rw [if_pos h0, if_pos (zak h0).1, if_pos (zs2 h0 hD)]
end
theorem zg8 {m : Mn} {I : List Ite} (h0 : ckM m = 0) (h1 : ckIE I = 0) (h : leE m I = 0) : ∀ n, n <= (perfL m).length -> LvJ m (perfL m) I n
 | 0, _ => zrm m _ I
 | n + 1, hn => by
  have ih := zg8 h0 h1 h n (by omega);have hk : (perfL m)[n]? = some ((perfL m)[n]'(by omega)) := lgg (by omega);refine ih.s hk (Classical.byContradiction fun he => ?_);have := (zsO h0 h1 ih hk he).1;rw [h] at this; exact he this.symm
theorem zuO {m : Mn} {I : List Ite} (h0 : ckM m = 0) (h1 : ckIE I = 0) (h : leE m I = 0) {n : Nat} {k : Int} (hk : (perfL m)[n]? = some k) : cuE m k (lvN m (perfL m) I n).2 = 0 := by
 have hlt := (List.getElem?_eq_some_iff.1 hk).1;refine Classical.byContradiction fun he => ?_
 have := (zsO h0 h1 (zg8 h0 h1 h n (by omega)) hk he).1;rw [h] at this; exact he this.symm
theorem zoc {m : Mn} {L : List Int} {I : List Ite} {n : Nat} : ∀ d, ∃ r, (lvN m L I (n + d)).1 = (lvN m L I n).1 ++ r
 | 0 => ⟨[], by simp⟩
 | d + 1 => by
  obtain ⟨r, hr⟩ := zoc (m := m) (L := L) (I := I) (n := n) d;exact ⟨r ++ cuV m (L.getD (n + d) 0) (lvN m L I (n + d)).2, by show (lvN m L I (n + d)).1 ++ cuV m (L.getD (n + d) 0) (lvN m L I (n + d)).2 = _; rw [hr, List.append_assoc]⟩
theorem zqa {m : Mn} {I : List Ite} (h0 : ckM m = 0) (h1 : ckIE I = 0) (h : leE m I = 0) {n : Nat} {k : Int} (hk : (perfL m)[n]? = some k) :
 (lvN m (perfL m) I n).1.length + (segV m k (lvN m (perfL m) I n).2).length <= (leC m I).length ∧
 ((leC m I).drop (lvN m (perfL m) I n).1.length).take (segV m k (lvN m (perfL m) I n).2).length = cuV m k (lvN m (perfL m) I n).2 ∧
 (lvN m (perfL m) I (n + 1)).1.length = (lvN m (perfL m) I n).1.length + (segV m k (lvN m (perfL m) I n).2).length ∧
 segE m k (lvN m (perfL m) I n).2 = 0 /\ apE m k (lvN m (perfL m) I n).2 (cuV m k (lvN m (perfL m) I n).2) = 0 ∧
 apV m k (lvN m (perfL m) I n).2 (cuV m k (lvN m (perfL m) I n).2) = (lvN m (perfL m) I (n + 1)).2 := by
 have hlt := (List.getElem?_eq_some_iff.1 hk).1;have hc := zuO h0 h1 h hk;obtain ⟨c0, c1⟩ := znU hc
 have hl : (cuV m k (lvN m (perfL m) I n).2).length = (segV m k (lvN m (perfL m) I n).2).length := by
  unfold cuO at c1; exact (zfo c1).1
 obtain ⟨e1, e2⟩ := zgq (m := m) (l := I) hk;have hend := (zsP h0 h1 (zg8 h0 h1 h (perfL m).length (Nat.le_refl _)) rfl).2.1;obtain ⟨r, hr⟩ := zoc (m := m) (L := perfL m) (I := I) (n := n + 1) ((perfL m).length - (n + 1));rw [show n + 1 + ((perfL m).length - (n + 1)) = (perfL m).length by omega, hend, ← e1, List.append_assoc] at hr;refine ⟨?_, ?_, ?_, c0, zh8 hc, e2⟩
 ·rw [hr, List.length_append, List.length_append]; omega
 ·rw [hr, List.drop_left, ← hl, List.take_left]
 ·rw [← e1, List.length_append, hl]
theorem zod {m : Mn} {I : List Ite} (h0 : ckM m = 0) (h1 : ckIE I = 0) (h : leE m I = 0) : (lvN m (perfL m) I (perfL m).length).1 = leC m I /\ (lvN m (perfL m) I (perfL m).length).2 = leI m I :=
 (zsP h0 h1 (zg8 h0 h1 h (perfL m).length (Nat.le_refl _)) rfl).2
theorem zs4 {m : Mn} {I : List Ite} (h : leE m I = 0) : ckM m = 0 /\ ckIE I = 0 := by
 have h0 : ckM m = 0 := Classical.byContradiction fun h2 => h2 ((zuw h2).1.symm.trans h)
 exact ⟨h0, Classical.byContradiction fun h2 => h2 ((zux h0 h2).1.symm.trans h)⟩
theorem zqb (m : Mn) (I : List Ite) : (leC m I).length <= 4 * (2 * I.length + 2) := by
 by_cases h : leE m I = 0
 ·obtain ⟨hM, hI⟩ := zs4 h;rw [← (zod hM hI h).1];have h1 := (zg8 hM hI h (perfL m).length (Nat.le_refl _)).cho;have h2 := Nat.mul_le_mul_right (2 * I.length + 2) (zeL m);omega
 ·unfold leC; rw [if_neg h]; simp
theorem zoe (m : Mn) {l : List Sg} (hl : l.length <= 1000) : (rdV m l).Dots.length <= 1000 /\ (rdV m l).Minor.length <= 1000 /\ (rdV m l).Choices.length <= 10000 /\ (rdV m l).Durs.length <= 1000 := by
 have hd : (zA m l).length <= 1000 := by have := zc2 m l; have := ziO m l; omega
 have hp : (twos (prL m l).length).length <= 1000 := by rw [zcg]; have := zcv m l; omega
 have hc := zqb m (rdI m l);have hi := zgj (m := m) (l := l);have hu := zp7 (m := m) (l := l);refine ⟨?_, ?_, ?_, by omega⟩
 ·unfold rdV; split
  ·exact hd
  ·simp
 ·unfold rdV; split
  ·exact hp
  ·simp
 ·unfold rdV; split
  ·show (leC m (rdI m l)).length <= _; omega
  ·simp
end Go.Rse
namespace Go.Rse
open Go Go.Proofs
structure Par where
 items : List Ite
 now : List Int
 made : List Int
 deriving DecidableEq
def parE : Par -> List AV := fun p => [itsA p.items, yd p.now, yd p.made]
abbrev parA (p : Par) : AV := .agg (parE p)
abbrev zao (l : List Par) : AV := .sl parE l
def parM (p : Par) (c : Int) : Par := { p with now := p.now ++ [c] }
def cgP (m : Mn) (k : Int) (p : Par) : Bool := decide (segE m k p.items = 0)
def cgS (m : Mn) (k : Int) (l : List Par) : List Par := l.filter (cgP m k)
def cgN (m : Mn) (k : Int) (l : List Par) : Int := l.foldl (fun a p => if segE m k p.items = 0 then ((segV m k p.items).length : Int) else a) 0
section
variable {m : Mn} {k : Int} {l : List Par} {n : Nat} {p : Par}
theorem zwy (h : l[n]? = some p) (h0 : segE m k p.items = 0) : cgS m k (l.take n) ++ [p] = cgS m k (l.take (n + 1)) /\ ((segV m k p.items).length : Int) = cgN m k (l.take (n + 1)) := by
 rw [List.take_add_one, h];refine ⟨?_, ?_⟩
 ·unfold cgS; rw [List.filter_append]; simp [cgP, h0]
 ·unfold cgN; rw [List.foldl_append]; simp [h0]
theorem zwz (h : l[n]? = some p) (h0 : ¬ segE m k p.items = 0) : cgS m k (l.take n) = cgS m k (l.take (n + 1)) /\ cgN m k (l.take n) = cgN m k (l.take (n + 1)) := by
 rw [List.take_add_one, h];refine ⟨?_, ?_⟩
 ·unfold cgS; rw [List.filter_append]; simp [cgP, h0]
 ·unfold cgN; rw [List.foldl_append]; simp [h0]
theorem zi1 (m : Mn) (k : Int) (l : List Par) : (cgS m k l).length <= l.length := List.length_filter_le _ _
theorem zlE (m : Mn) (k : Int) {B : Nat} : ∀ (l : List Par), (∀ p ∈ l, p.items.length <= B) -> 0 <= cgN m k l /\ cgN m k l <= 2 * B + 2 := by
 intro l hl;unfold cgN
 have key : ∀ (l : List Par) (a : Int), (∀ p ∈ l, p.items.length <= B) -> (0 <= a /\ a <= 2 * B + 2) -> 0 <= l.foldl (fun a p => if segE m k p.items = 0 then ((segV m k p.items).length : Int) else a) a /\ l.foldl (fun a p => if segE m k p.items = 0 then ((segV m k p.items).length : Int) else a) a <= 2 * B + 2 := by
  intro l
  induction l with
  | nil => intro a _ h; exact h
  | cons p r ih =>
   intro a hp h;rw [List.foldl_cons];refine ih _ (fun q hq => hp q (List.mem_cons_of_mem _ hq)) ?_;split
   ·have h1 := zan m k p.items;have h2 := hp p (by simp);omega
   ·exact h
 exact key l 0 hl ⟨by omega, by omega⟩
end
def br1 (m : Mn) (k : Int) (p : Par) : List Par := (alV m k p.items p.now).map (parM p)
def brF (m : Mn) (k : Int) (l : List Par) : List Par := l.flatMap (br1 m k)
theorem zlF (m : Mn) (k : Int) (l : List Ite) (M : List Int) : (alV m k l M).length <= 5 := by
 unfold alV; split
 ·exact zlx _ _ _ _ _ _
 ·simp
theorem zqc (m : Mn) (k : Int) (p : Par) : (br1 m k p).length <= 5 := by unfold br1; rw [List.length_map]; exact zlF _ _ _ _
theorem zi2 (m : Mn) (k : Int) : ∀ (l : List Par), (brF m k l).length <= 5 * l.length
 | [] => by simp [brF]
 | p :: r => by
  have := zi2 m k r;have := zqc m k p;unfold brF at *
  rw [List.flatMap_cons, List.length_append, List.length_cons]; omega
structure PB (a b c : Nat) (p : Par) : Prop where
 i : p.items.length <= a
 n : p.now.length <= b
 d : p.made.length <= c
theorem zrs {m : Mn} {k : Int} {a b c : Nat} {l : List Par} (h : ∀ p ∈ l, PB a b c p) : ∀ p ∈ brF m k l, PB a (b + 1) c p := by
 intro p hp;unfold brF at hp;obtain ⟨q, hq, hp⟩ := List.mem_flatMap.1 hp;unfold br1 at hp;obtain ⟨x, hx, rfl⟩ := List.mem_map.1 hp;have := h q hq;exact ⟨this.i, by show (q.now ++ [x]).length <= _; rw [List.length_append]; have := this.n; simp; omega, this.d⟩
theorem zrt {m : Mn} {k : Int} {a b c : Nat} {l : List Par} (h : ∀ p ∈ l, PB a b c p) : ∀ p ∈ cgS m k l, PB a b c p := fun p hp => h p (List.mem_filter.1 hp).1
def brX (m : Mn) (k : Int) : Nat -> List Par -> List Par × Int
 | 0, l => (l, 0)
 | n + 1, l => if 4096 < (brF m k l).length then ([], 15) else brX m k n (brF m k l)
def ap1 (m : Mn) (k : Int) (p : Par) : Par := ⟨apV m k p.items p.now, [], p.made ++ p.now⟩
def alvR (m : Mn) (k : Int) (l : List Par) : List Par × Int := brX m k (cgN m k l).toNat (cgS m k l)
def alvE (m : Mn) (k : Int) (l : List Par) : Int := (alvR m k l).2
def alvV (m : Mn) (k : Int) (l : List Par) : List Par := if alvE m k l = 0 then (alvR m k l).1.map (ap1 m k) else []
def brN (m : Mn) (k : Int) (l : List Par) : Nat -> List Par
 | 0 => cgS m k l
 | n + 1 => brF m k (brN m k l n)
theorem zof (m : Mn) (k : Int) : ∀ (n : Nat) (l : List Par), (brX m k n l).2 = 0 \/ (brX m k n l).2 = 15
 | 0, l => .inl rfl
 | n + 1, l => by
  unfold brX; split
  ·exact .inr rfl
  ·exact zof m k n _
structure BrJ (m : Mn) (k : Int) (l : List Par) (n : Nat) : Prop where
 le : n <= (cgN m k l).toNat
 go : alvR m k l = brX m k ((cgN m k l).toNat - n) (brN m k l n)
theorem zuP (m : Mn) (k : Int) (l : List Par) : BrJ m k l 0 := ⟨Nat.zero_le _, by unfold alvR; rw [Nat.sub_zero]; rfl⟩
section
variable {m : Mn} {k : Int} {l : List Par} {n : Nat}
theorem BrJ.s (h : BrJ m k l n) (hn : n < (cgN m k l).toNat) (h2 : (brF m k (brN m k l n)).length <= 4096) : BrJ m k l (n + 1) := by
 refine ⟨hn, ?_⟩;rw [h.go, show (cgN m k l).toNat - n = ((cgN m k l).toNat - (n + 1)) + 1 by omega];conv => lhs; unfold brX
 rw [if_neg (by omega)]; rfl
theorem BrJ.bad (h : BrJ m k l n) (hn : n < (cgN m k l).toNat) (h2 : 4096 < (brF m k (brN m k l n)).length) : alvE m k l = 15 /\ alvV m k l = [] := by
 have e : alvR m k l = ([], 15) := by
  rw [h.go, show (cgN m k l).toNat - n = ((cgN m k l).toNat - (n + 1)) + 1 by omega];conv => lhs; unfold brX
  rw [if_pos h2]
 have e2 : alvE m k l = 15 := by unfold alvE; rw [e]
 refine ⟨e2, ?_⟩; unfold alvV; rw [e2]; rfl
theorem BrJ.fin (h : BrJ m k l n) (hn : n = (cgN m k l).toNat) : alvE m k l = 0 /\ (brN m k l n).map (ap1 m k) = alvV m k l := by
 have e : alvR m k l = (brN m k l n, 0) := by rw [h.go, hn, Nat.sub_self]; rfl
 have e2 : alvE m k l = 0 := by unfold alvE; rw [e]
 refine ⟨e2, ?_⟩; unfold alvV; rw [e2, if_pos rfl, e]
end
theorem zqd (m : Mn) (k : Int) (l : List Par) : alvE m k l = 0 \/ alvE m k l = 15 := zof _ _ _ _
theorem zog {m : Mn} {k : Int} {a c : Nat} {l : List Par} (h : ∀ p ∈ l, PB a 0 c p) : ∀ n, ∀ p ∈ brN m k l n, PB a n c p
 | 0 => zrt h
 | n + 1 => zrs (zog h n)
theorem zoh {m : Mn} {k : Int} : ∀ (n : Nat) (l : List Par), l.length <= 4096 -> (brX m k n l).2 = 0 -> (brX m k n l).1.length <= 4096
 | 0, l, h, _ => h
 | n + 1, l, h, h0 => by
  unfold brX at h0 ⊢;split
  ·simp
  ·rename_i h2;rw [if_neg h2] at h0;exact zoh n _ (by omega) h0
theorem zoi {m : Mn} {k : Int} {a c : Nat} : ∀ (n b : Nat) (l : List Par), (∀ p ∈ l, PB a b c p) -> ∀ p ∈ (brX m k n l).1, PB a (b + n) c p
 | 0, b, l, h => h
 | n + 1, b, l, h => by
  unfold brX;split
  ·simp
  ·intro p hp;have := zoi n (b + 1) _ (zrs h) p hp
   rwa [show b + 1 + n = b + (n + 1) by omega] at this
theorem zs5 {m : Mn} {k : Int} {l : List Ite} {M : List Int} : (apV m k l M).length <= l.length := by
 by_cases h : apE m k l M = 0
 ·rw [zgp h]; exact Nat.le_refl _
 ·unfold apV; rw [if_neg h]; simp
theorem zkD {m : Mn} {k : Int} {a c : Nat} {l : List Par} (hl : l.length <= 4096) (h : ∀ p ∈ l, PB a 0 c p) : (alvV m k l).length <= 4096 /\ ∀ p ∈ alvV m k l, PB a 0 (c + (2 * a + 2)) p := by
 unfold alvV;split
 ·rename_i h0;have hN := zlE m k (B := a) l fun p hp => (h p hp).i
  refine ⟨?_, fun p hp => ?_⟩
  ·rw [List.length_map];exact zoh _ _ (Nat.le_trans (zi1 m k l) hl) h0
  ·obtain ⟨q, hq, rfl⟩ := List.mem_map.1 hp;have hq2 : PB a (0 + (cgN m k l).toNat) c q := zoi _ _ _ (zrt h) q hq;refine ⟨Nat.le_trans zs5 hq2.i, Nat.le_refl _, ?_⟩;show (q.made ++ q.now).length <= _;rw [List.length_append];have := hq2.n; have := hq2.d;omega
 ·exact ⟨by simp, by simp⟩
def cmL (m : Mn) : List Int -> List Par -> List Par × Int
 | [], l => (l, 0)
 | k :: r, l => if alvE m k l = 0 then cmL m r (alvV m k l) else ([], 15)
def cmI (m : Mn) (l : List Sg) (n : Int) : List Ite := itmV m l (iofD m l n) (iofM m l n)
def cmR (m : Mn) (l : List Sg) (n : Int) : List Par × Int := cmL m (perfL m) [⟨cmI m l n, [], []⟩]
def rdOf (d mi : List Int) (p : Par) : Rdg := ⟨d, mi, p.made, p.items.map (·.Dur)⟩
def cmE (m : Mn) (l : List Sg) (n : Int) : Int := (cmR m l n).2
def cmV (m : Mn) (l : List Sg) (n : Int) : List Rdg := if cmE m l n = 0 then (cmR m l n).1.map (rdOf (iofD m l n) (iofM m l n)) else []
def cmN (m : Mn) (L : List Int) (l : List Par) : Nat -> List Par
 | 0 => l
 | n + 1 => alvV m (L.getD n 0) (cmN m L l n)
structure CmJ (m : Mn) (L : List Int) (l : List Par) (n : Nat) : Prop where
 le : n <= L.length
 go : cmL m L l = cmL m (L.drop n) (cmN m L l n)
theorem zuQ (m : Mn) (L : List Int) (l : List Par) : CmJ m L l 0 := ⟨Nat.zero_le _, rfl⟩
section
variable {m : Mn} {L : List Int} {l : List Par} {n : Nat} {k : Int}
theorem zru (hk : L[n]? = some k) : alvV m k (cmN m L l n) = cmN m L l (n + 1) := by
 show _ = alvV m (L.getD n 0) _;rw [List.getD_eq_getElem?_getD, hk]; rfl
theorem CmJ.s (h : CmJ m L l n) (hk : L[n]? = some k) (h0 : alvE m k (cmN m L l n) = 0) : CmJ m L l (n + 1) := by
 have hlt := List.getElem?_eq_some_iff.1 hk;refine ⟨hlt.1, ?_⟩;rw [h.go, List.drop_eq_getElem_cons hlt.1, hlt.2];show (if alvE m k (cmN m L l n) = 0 then _ else _) = _;rw [if_pos h0, zru hk]
theorem CmJ.bad (h : CmJ m L l n) (hk : L[n]? = some k) (h0 : ¬ alvE m k (cmN m L l n) = 0) : alvE m k (cmN m L l n) = 15 /\ cmL m L l = ([], 15) := by
 have hlt := List.getElem?_eq_some_iff.1 hk;refine ⟨(zqd _ _ _).resolve_left h0, ?_⟩;rw [h.go, List.drop_eq_getElem_cons hlt.1, hlt.2];show (if alvE m k (cmN m L l n) = 0 then _ else _) = _;rw [if_neg h0]
theorem CmJ.fin (h : CmJ m L l n) (hn : n = L.length) : cmL m L l = (cmN m L l n, 0) := by
 rw [h.go, hn, List.drop_length]; rfl
theorem zoj {a : Nat} (hl : l.length <= 4096) (h : ∀ p ∈ l, PB a 0 0 p) : ∀ n, (cmN m L l n).length <= 4096 /\ ∀ p ∈ cmN m L l n, PB a 0 (n * (2 * a + 2)) p
 | 0 => ⟨hl, by simpa [cmN] using h⟩
 | n + 1 => by
  obtain ⟨i1, i2⟩ := zoj hl h n;have := zkD (m := m) (k := L.getD n 0) i1 i2;refine ⟨this.1, fun p hp => ?_⟩;have := this.2 p hp
  rwa [Nat.add_mul, Nat.one_mul]
end
def aqN (m : Mn) (l : List Sg) : Nat -> List Rdg
 | 0 => []
 | n + 1 => aqN m l n ++ cmV m l n
def aqX (m : Mn) (l : List Sg) : Nat -> Bool
 | 0 => true
 | n + 1 => aqX m l n && decide (cmE m l n = 0) && decide ((aqN m l (n + 1)).length <= 4096)
def aqE (m : Mn) (l : List Sg) : Int :=
 if ictE m l = 0 then (if aqX m l (ictV m l).toNat = true then (if (aqN m l (ictV m l).toNat).length = 0 then 14 else 0) else 15) else ictE m l
def aqV (m : Mn) (l : List Sg) : List Rdg := if aqE m l = 0 then aqN m l (ictV m l).toNat else []
section
variable {m : Mn} {l : List Sg} {n : Nat}
theorem zuR {N : Nat} (h : aqX m l (n + 1) = false) : n + 1 <= N -> aqX m l N = false := by
 intro hN
 induction N with
 | zero => omega
 | succ N ih =>
  rcases Nat.lt_or_ge (n + 1) (N + 1) with h1 | h1
  ·show (aqX m l N && _ && _) = false;rw [ih (by omega)]; rfl
  ·have : N = n := by omega
   subst this; exact h
theorem zwA (h : ¬ ictE m l = 0) : aqE m l = ictE m l /\ aqV m l = [] := by
 have : aqE m l = ictE m l := by unfold aqE; rw [if_neg h]
 refine ⟨this, ?_⟩; unfold aqV; rw [this, if_neg h]
theorem zuS (h : ictE m l = 0) (hn : (n : Int) < ictV m l) (h2 : ¬ cmE m l n = 0 \/ 4096 < (aqN m l (n + 1)).length) : aqE m l = 15 /\ aqV m l = [] := by
 have hx : aqX m l (n + 1) = false := by
  show (aqX m l n && decide (cmE m l n = 0) && decide ((aqN m l (n + 1)).length <= 4096)) = false;rcases h2 with h2 | h2
  ·rw [decide_eq_false h2]; simp
  ·rw [decide_eq_false (show ¬ (aqN m l (n + 1)).length <= 4096 by omega)]; simp
 have := zuR (N := (ictV m l).toNat) hx (by omega);have : aqE m l = 15 := by unfold aqE; rw [if_pos h, if_neg (by rw [this]; decide)]
 refine ⟨this, ?_⟩; unfold aqV; rw [this]; rfl
theorem zwB (h : aqX m l n = true) (h2 : cmE m l n = 0) (h3 : (aqN m l (n + 1)).length <= 4096) : aqX m l (n + 1) = true := by
 show (aqX m l n && decide (cmE m l n = 0) && decide ((aqN m l (n + 1)).length <= 4096)) = true;rw [h, decide_eq_true h2, decide_eq_true h3]; rfl
theorem zwC (h : ictE m l = 0) (hn : n = (ictV m l).toNat) (hx : aqX m l n = true) (h0 : (aqN m l n).length = 0) : aqE m l = 14 /\ aqV m l = [] := by
 subst hn;have : aqE m l = 14 := by unfold aqE; rw [if_pos h, if_pos hx, if_pos h0]
 refine ⟨this, ?_⟩; unfold aqV; rw [this]; rfl
theorem zwD (h : ictE m l = 0) (hn : n = (ictV m l).toNat) (hx : aqX m l n = true) (h0 : ¬ (aqN m l n).length = 0) : aqE m l = 0 /\ aqN m l n = aqV m l := by
 subst hn;have : aqE m l = 0 := by unfold aqE; rw [if_pos h, if_pos hx, if_neg h0]
 refine ⟨this, ?_⟩; unfold aqV; rw [this]; rfl
theorem zlG : ∀ {n : Nat}, aqX m l n = true -> (aqN m l n).length <= 4096
 | 0, _ => by simp [aqN]
 | n + 1, h => by
  have h : (aqX m l n && decide (cmE m l n = 0) && decide ((aqN m l (n + 1)).length <= 4096)) = true := h;simp only [Bool.and_eq_true, decide_eq_true_eq] at h;exact h.2
theorem zlH (m : Mn) (l : List Sg) : (aqV m l).length <= 4096 := by
 unfold aqV; split
 ·rename_i h;unfold aqE at h;split at h
  ·split at h
   ·rename_i hx; exact zlG hx
   ·cases h
  ·exact absurd h (by assumption)
 ·simp
end
end Go.Rse
namespace Go.Rse
open Go Go.Proofs
attribute [local irreducible] Pur yD yE Ex X Fn Imp LeV LeB FnO It yJ FnW FnOW FnP FnD
def bqX (m : Mn) (k : Int) (l : List Par) : List (List AV) := (brF m k l).map fun p => [parA p]
theorem zlI (m : Mn) (k : Int) (l : List Par) : (bqX m k l).length = (brF m k l).length := by unfold bqX; simp
theorem zi3 {m : Mn} {k : Int} {l : List Par} {j : Nat} {zs : List AV} (h : (bqX m k l)[j]? = some zs) : ∃ p, (brF m k l)[j]? = some p /\ zs = [parA p] := by
 rw [bqX, List.getElem?_map] at h;cases hk : (brF m k l)[j]? with
 | none => simp [hk] at h
 | some p => simp [hk] at h; exact ⟨p, rfl, h.symm⟩
theorem zrv {m : Mn} {k : Int} {l : List Par} {n : Nat} {p : Par} (h : l[n]? = some p) : brF m k (l.take (n + 1)) = brF m k (l.take n) ++ br1 m k p := by
 rw [List.take_add_one, h];unfold brF; simp [List.flatMap_append]
theorem zqe {m : Mn} {k : Int} {l : List Par} (n : Nat) : ∃ r, brF m k l = brF m k (l.take n) ++ r :=
 ⟨brF m k (l.drop n), by conv => lhs; rw [← List.take_append_drop n l]
                         unfold brF; rw [List.flatMap_append]⟩
theorem zs6 {m : Mn} {k : Int} {l : List Par} {n j : Nat} {p : Par} {c : Int} (h : l[n]? = some p) (hc : (alV m k p.items p.now)[j]? = some c) : (bqX m k l)[(brF m k (l.take n)).length + j]? = some [parA (parM p c)] := by
 obtain ⟨r, hr⟩ := zqe (m := m) (k := k) (l := l) (n + 1);rw [zrv h] at hr;have hj := (List.getElem?_eq_some_iff.1 hc).1
 have e : (brF m k l)[(brF m k (l.take n)).length + j]? = some (parM p c) := by
  rw [hr, List.append_assoc, List.getElem?_append_right (by omega), Nat.add_sub_cancel_left, List.getElem?_append_left (by unfold br1; rw [List.length_map]; exact hj)];unfold br1; rw [List.getElem?_map, hc]; rfl
 unfold bqX; rw [List.getElem?_map, e]; rfl
theorem zs7 (m : Mn) (k : Int) (p : Par) : (br1 m k p).length = (alV m k p.items p.now).length := by unfold br1; simp
attribute [local irreducible] alV alE segE segV brF bqX cgS cgN br1
theorem zcG (p : Par) (c : Int) (hn : p.now.length <= 4000000) : Fn Tryz.prog 163 [parA p, iv c] (parA (parM p c)) := by
 refine Fn.go Tryz.func163 Tryz.ntmps163 (fun g w d => ?_);apply yb;refine yH ?_;refine yG ?_;apply yk;iterate 2 refine ya ?_
 refine zU [(5, 33)] (zz p.now (by omega)) ?_;refine ya ?_;refine yS intE [_] ?_;refine yj ?_;refine ya ?_;refine yj ?_;apply Ex.nil;apply ye;refine X.imp (Imp.freeze (k := 33) rfl) ?_;apply yc;refine ya ?_;refine yj ?_;apply Ex.nil;refine X.ret ?_;refine RetQ.ret (.one (.cellA rfl rfl rfl rfl zmd (LeV.eq ?_)));all_goals (first | rfl | (simp_all; done))
set_option maxHeartbeats 4000000 in
theorem zea (m : Mn) (k : Int) (l : List Par) (a b c : Nat) (h0 : -9223372036854775808 <= k) (h1 : k <= 9223372036854775807) (ha : a <= 1000000) (hl : l.length <= 100000) (hB : ∀ p ∈ l, PB a b c p) : FnO Tryz.prog 112 [mnA m, iv k, zao l] [] [] (.tup [.own 30, iv (cgN m k l)]) [(30, .row parE (cgS m k l) 124 3)] := by
 have hz0 : [] = cgS m k (l.take 0) := by unfold cgS; simp
 have hz1 : cgN m k (l.take 0) = 0 := by unfold cgN; simp
 refine FnO.intro (ts := [(0, mnA m), (1, iv k), (2, zao l)]) (rv := [.tmp 6, .tmp 7]) (n := 39) (cs := []) (by kernel_rfl) Tryz.func112 rfl Tryz.ntmps112 rfl rfl (by simp) rfl rfl rfl rfl (fun g w d vs => ?_);apply yb;refine yH ?_;iterate 2 refine ya ?_
 apply yk;refine ya ?_;apply yk;refine yf ?_;iterate 2 apply ye
 refine X.imp (za parE 124 3 8 30 rfl rfl) ?_;apply yc;refine yq ?_;apply X.block
 refine zh (ι := Nat) (fun (n : Nat) => [(1, iv k), (3, .ptr 3 0 0 0), (8, .own 30), (9, iv (cgN m k (l.take n))), (14, zao l), (15, iv l.length), (16, iv (n : Int))]) (fun (n : Nat) => [(1000001, .hold vs []), (3, .box (mnE m) 24), (30, .row parE (cgS m k (l.take n)) 124 3)]) (fun (n : Nat) => n <= l.length) (fun (n : Nat) => l.length - n) 0 (fun n hk => ?_) (h0 := by
  exact yA)
 apply yb;refine yf ?_;apply ye;refine ym rfl ?_ ?_<;>intro hc1
 ·obtain ⟨p, hp⟩ : ∃ p, l[n]? = some p := ⟨_, lgg (by omega)⟩;have hp2 : l[(n : Int).toNat]? = some p := by simpa using hp
  have hPB := hB p (List.mem_of_getElem? hp);have hln : (cgS m k (l.take n)).length <= 100000 := by have := zi1 m k (l.take n); rw [List.length_take] at this; omega
  apply yg;apply ye;apply X.block;apply yb;iterate 2 refine ya ?_
  refine yG ?_;refine yj ?_;apply yk;iterate 4 refine ya ?_
  refine yp (zR m k p.items h0 h1 (by have := hPB.i; omega)) ?_;iterate 5 refine ya ?_
  apply yk;refine yh ?_;refine ym rfl ?_ ?_<;>intro hc2
  ·have hZ1 := zwy (m := m) (k := k) hp hc2;obtain ⟨q1, q2⟩ := hZ1;apply yc;(iterate 2 refine ya ?_);refine yS parE [p] ?_;refine yj ?_;refine zM ?_;apply yc;refine yh ?_;refine yQ (n + 1) (hI := yA)
  ·have hZ2 := zwz (m := m) (k := k) hp hc2;obtain ⟨q1, q2⟩ := hZ2;apply yg;apply yc;refine yh ?_;refine yQ (n + 1) (hI := yA)
 ·obtain rfl : n = l.length := by omega
  rw [List.take_length];apply X.exit;apply yb;refine zM ?_;refine X.ret ?_;refine zlV.mk (ts := [(6, .own 30), (7, iv (cgN m k l))]) (.inr rfl) (yi) (.many (by decide) (.cons (.tmp rfl (LeV.eq rfl)) (.cons (.tmp rfl (LeV.eq rfl)) .nil)))
theorem zeb (m : Mn) (k : Int) (l : List Par) : Fn Tryz.prog 114 [mnA m, iv k, zao l] (.fn 161 [.ept (fun _ : Unit => [.sl parE l]) () 0, .ept (fun _ : Unit => mnE m) () 0, .ept (fun _ : Unit => [iv k]) () 0]) := by
 refine Fn.go Tryz.func114 Tryz.ntmps114 (fun g w d => ?_);apply yb;refine yH ?_;iterate 2 refine zb6 ?_
 refine ya ?_;apply yk;refine yh ?_;refine X.ret ?_;refine RetQ.imp ((yT (k := 3) rfl rfl).trans ((yT (k := 4) rfl rfl).trans (yT (k := 5) rfl rfl))) ?_;refine yo ?_;all_goals (first | rfl | (simp_all; done))
set_option maxHeartbeats 4000000 in
theorem zdc (m : Mn) (k : Int) (l : List Par) (a b c : Nat) (h0 : -9223372036854775808 <= k) (h1 : k <= 9223372036854775807) (ha : a <= 1000000) (hb : b <= 3999999) (hl : l.length <= 100000) (hB : ∀ p ∈ l, PB a b c p) : It Tryz.prog 161 [.ept (fun _ : Unit => [.sl parE l]) () 0, .ept (fun _ : Unit => mnE m) () 0, .ept (fun _ : Unit => [iv k]) () 0] (bqX m k l) := by
 have hz0 : (brF m k (l.take 0)).length = 0 := by unfold brF; simp
 refine It.intro (ts := fun lY => [(0, .yv lY), (1, .ept (fun _ : Unit => [.sl parE l]) () 0), (2, .ept (fun _ : Unit => mnE m) () 0), (3, .ept (fun _ : Unit => [iv k]) () 0)]) (n := 41) (by kernel_rfl) Tryz.func161 rfl Tryz.ntmps161 rfl (fun _ => rfl) (by simp) (fun g w d ds Y lY hY => ?_);apply yb;refine yq ?_;apply X.block;refine zh (ι := Nat) (fun (n : Nat) => [(0, .yv lY), (1, .ept (fun _ : Unit => [.sl parE l]) () 0), (2, .ept (fun _ : Unit => mnE m) () 0), (3, .ept (fun _ : Unit => [iv k]) () 0), (11, zao l), (12, iv l.length), (13, iv (n : Int))]) (fun (n : Nat) => [(1000000, .yld (brF m k (l.take n)).length true)]) (fun (n : Nat) => n <= l.length) (fun (n : Nat) => l.length - n) 0 (fun n hk => ?_);apply yb;refine yf ?_;apply ye;refine ym rfl ?_ ?_<;>intro hc1
 ·obtain ⟨p, hp⟩ : ∃ p, l[n]? = some p := ⟨_, lgg (by omega)⟩;have hp2 : l[(n : Int).toNat]? = some p := by simpa using hp
  have hPB := hB p (List.mem_of_getElem? hp);have hal := zlF m k p.items p.now;apply yg;apply ye;apply X.block;apply yb;iterate 2 refine ya ?_
  refine yG ?_;refine yj ?_;apply yk;iterate 6 refine ya ?_
  refine yp (zf3 m k p.items p.now h0 h1 (by have := hPB.i; omega) (by have := hPB.n; omega)) ?_;iterate 5 refine ya ?_
  apply yk;refine yq ?_;apply X.block;refine zh (ι := Nat) (fun (j : Nat) => [(0, .yv lY), (1, .ept (fun _ : Unit => [.sl parE l]) () 0), (2, .ept (fun _ : Unit => mnE m) () 0), (3, .ept (fun _ : Unit => [iv k]) () 0), (11, zao l), (12, iv l.length), (13, iv (n : Int)), (6, .ptr 6 0 0 0), (27, yd (alV m k p.items p.now)), (28, iv (alV m k p.items p.now).length), (29, iv (j : Int))]) (fun (j : Nat) => [(1000000, .yld ((brF m k (l.take n)).length + j) true), (6, .box (parE p) 124)]) (fun (j : Nat) => j <= (alV m k p.items p.now).length) (fun (j : Nat) => (alV m k p.items p.now).length - j) 0 (fun j hk => ?_);apply yb;refine yf ?_;apply ye;refine ym rfl ?_ ?_<;>intro hc2
  ·obtain ⟨x, hx⟩ : ∃ x, (alV m k p.items p.now)[j]? = some x := ⟨_, lgg (by omega)⟩;have hx2 : (alV m k p.items p.now)[(j : Int).toNat]? = some x := by simpa using hx
   have hyj := zs6 (m := m) (k := k) hp hx;apply yg;apply ye;apply X.block;apply yb;(iterate 3 refine ya ?_);apply yk;(iterate 3 refine ya ?_);refine yp (zcG p x (by have := hPB.n; omega)) ?_;refine Ex.yield hY rfl rfl rfl (LeL.refl _) rfl rfl hyj rfl (fun b => ?_);refine yf ?_;refine ym rfl ?_ ?_<;>intro hc3
   ·subst hc3;refine X.ret ?_;refine ⟨.inr rfl, _, false, rfl, fun hb => by simp at hb⟩
   subst hc3;apply yg;apply yc;refine yh ?_;refine yQ (j + 1)
  ·obtain rfl : j = (alV m k p.items p.now).length := by omega
   have hbs : (brF m k (l.take (n + 1))).length = (brF m k (l.take n)).length + (alV m k p.items p.now).length := by rw [zrv hp, List.length_append, zs7]
   apply X.exit;apply yc;refine yh ?_;refine yQ (n + 1)
 ·obtain rfl : n = l.length := by omega
  apply X.exit;refine ⟨.inl rfl, _, true, rfl, fun _ => by rw [zlI, List.take_length]⟩
end Go.Rse
