/-
  Plain: the reading by the rule: its items are valid, what stays as it was, which errors there are.
-/
import Derived.Test.YtbilklnipfabpaaGreatDoorPJItem3
import Derived.Test.YtbilklnipfabpaaGreatDoorPJCmb1
set_option linter.unusedSimpArgs false
set_option linter.unusedVariables false
namespace Go.Rse
open Go Go.Proofs
theorem zm0 {m : Mn} {s : Sg} (hM : ckM m = 0) (h1 : 1 <= s.Value) (h8 : s.Value <= 8) : ∀ v ∈ mngs m s, 0 <= v /\ v <= 8 := by
 intro v hv;have ha := zhQ (m := m) h1;by_cases hz : s.Kind = 2 /\ m.aV s.Value = 0
 ·have := (zdc hM h1 h8).2 hz;rw [List.length_eq_zero_iff.1 this] at hv; simp at hv
 ·rw [zjB hM h1 h8 hz] at hv;unfold mngR at hv
  repeat' (split at hv)
  all_goals (simp at hv; omega)
theorem zoN {m : Mn} {l : List Sg} {ch : List Int} (h : mkE m l ch = 0) {k : Nat} {s : Sg} (hs : l[k]? = some s) (h3 : ¬ s.Kind = 3) : 0 <= (zJ ch l l.length k).1 /\ (zJ ch l l.length k).1 <= 8 := by
 obtain ⟨hM, v1, v8⟩ := zbm (zf2 h) hs h3;unfold zJ;cases hz : l[k + 1]? with
 | none => exact ⟨Int.le_refl 0, show (0 : Int) <= 8 by decide⟩
 | some z =>
  simp only;split
  ·rename_i hd;have hat := ziR hz hd.2 l.length hd.1;obtain ⟨e1, e2⟩ := zmL h
   have hmn : (mnsD m l)[(yT l (k + 1)).length]? = some (mngs m s) := by
    unfold mnsD;rw [List.getElem?_map, hat];show some (mnAt m l ((k + 1 : Nat) : Int)) = _;unfold mnAt zfV;rw [show (((k + 1 : Nat) : Int) - 1).toNat = k by omega, hs]
   have hlt := (List.getElem?_eq_some_iff.1 hmn).1;obtain ⟨v, hv⟩ : ∃ v, ch[(yT l (k + 1)).length]? = some v := ⟨_, lgg (by omega)⟩;have hmem := zcA.1 e2 _ _ _ hmn hv;show 0 <= ch.getD (yT l (k + 1)).length 0 /\ ch.getD (yT l (k + 1)).length 0 <= 8;rw [zbC hv];exact zm0 hM v1 v8 v hmem
  ·exact ⟨Int.le_refl 0, show (0 : Int) <= 8 by decide⟩
def okT (m : Mn) (v : Int) : Bool := decide (ckT (fullT m v) = 0) && decide (ckT (durT m v) = 0) && decide (ckT (mulV (fullT m v) ⟨3, 2⟩) = 0) && decide (ckT (mulV (durT m v) ⟨3, 2⟩) = 0)
theorem zoO : zeY okT = true := by kernel_rfl
theorem zrc {m : Mn} {s : Sg} {z : Tm} (hm : ckM m = 0) (h1 : 1 <= s.Value) (h8 : s.Value <= 8) (hz : z = bsT m s \/ z = ⟨3, 2⟩ \/ z = ⟨1, 2⟩) : ckT z = 0 /\ ckT (mulV z ⟨3, 2⟩) = 0 := by
 have h := zbh zoO hm h1 h8;unfold okT at h;simp only [Bool.and_eq_true, decide_eq_true_eq] at h;rcases hz with rfl | rfl | rfl
 ·unfold bsT; split
  ·exact ⟨h.1.1.2, h.2⟩
  ·exact ⟨h.1.1.1, h.1.2⟩
 ·exact ⟨by decide +kernel, by decide +kernel⟩
 ·exact ⟨by decide +kernel, by decide +kernel⟩
theorem zsV {m : Mn} {l : List Sg} {ch mi : List Int} (h1 : mkE m l ch = 0) {k : Nat} {s : Sg} (hs : l[k]? = some s) (h3 : ¬ s.Kind = 3) : itP (iTM m l ch mi k s) := by
 obtain ⟨hM, v1, v8⟩ := zbm (zf2 h1) hs h3;have hc := zoN h1 hs h3
 have hz : ∀ z, z = (mget (k : Int) (duM m l mi)).getD (bsT m s) -> z = bsT m s \/ z = ⟨3, 2⟩ \/ z = ⟨1, 2⟩ := by
  intro z hz;cases hq : mget (k : Int) (duM m l mi) with
  | none => rw [hq] at hz; exact .inl hz
  | some x => rw [hq] at hz; exact .inr (by rw [show z = x from hz]; exact zaO _ _ _ _ _ hq)
 have hz := hz _ rfl;unfold iTM;generalize (mget (k : Int) (duM m l mi)).getD (bsT m s) = z at *
 generalize (zJ ch l l.length k).1 = c at *
 generalize (zJ ch l l.length k).2 = a at *
 have hp := zoy hM v1 v8 hz;have ho := zrc hM v1 v8 hz;have e01 : ckT ⟨0, 1⟩ = 0 := by decide +kernel
 refine ⟨zjE ⟨⟨v1, v8, hc.1, hc.2⟩, ?_, e01, e01, ?_⟩, ?_⟩
 ·show ckT (if a = true then mulV z ⟨3, 2⟩ else z) = 0;split
  ·exact ho.2
  ·exact ho.1
 ·intro hk;have hk : (decide (s.Kind = 2) = true /\ clr s = true) \/ ((decide (s.Kind = 2) = true \/ clr s = true) /\ (a || decide (s.Kind = 2) || clr s || decide (c = s.Value)) = false) := hk;simp only [Bool.or_eq_false_iff] at hk;rcases hk with ⟨h4, h5⟩ | ⟨h4 | h4, h5⟩
  ·have h4 := of_decide_eq_true h4;unfold clr at h5; rw [h4] at h5; simp at h5
  ·rw [h5.1.1.2] at h4; cases h4
  ·rw [h5.1.2] at h4; cases h4
 ·show 1 <= (if a = true then mulV z ⟨3, 2⟩ else z).N;split
  ·exact hp.2
  ·exact hp.1
section
variable {m : Mn} {l : List Sg}
end
end Go.Rse
namespace Go.Rse
open Go Go.Proofs
structure Par where
 items : List Ite
 now : List Int
 made : List Int
 deriving DecidableEq
def parE : Par -> List AV := fun p => [itsA p.items, yg p.now, yg p.made]
abbrev parA (p : Par) : AV := .agg (parE p)
abbrev zab (l : List Par) : AV := .sl parE l
def parM (p : Par) (c : Int) : Par := { p with now := p.now ++ [c] }
def cgP (m : Mn) (k : Int) (p : Par) : Bool := decide (segE m k p.items = 0)
def cgS (m : Mn) (k : Int) (l : List Par) : List Par := l.filter (cgP m k)
def cgN (m : Mn) (k : Int) (l : List Par) : Int := l.foldl (fun a p => if segE m k p.items = 0 then ((segV m k p.items).length : Int) else a) 0
section
variable {m : Mn} {k : Int} {l : List Par} {n : Nat} {p : Par}
theorem zug (h : l[n]? = some p) (h0 : segE m k p.items = 0) : cgS m k (l.take n) ++ [p] = cgS m k (l.take (n + 1)) /\ ((segV m k p.items).length : Int) = cgN m k (l.take (n + 1)) := by
 rw [List.take_add_one, h];refine ⟨?_, ?_⟩
 ·unfold cgS; rw [List.filter_append]; simp [cgP, h0]
 ·unfold cgN; rw [List.foldl_append]; simp [h0]
theorem zuh (h : l[n]? = some p) (h0 : ¬ segE m k p.items = 0) : cgS m k (l.take n) = cgS m k (l.take (n + 1)) /\ cgN m k (l.take n) = cgN m k (l.take (n + 1)) := by
 rw [List.take_add_one, h];refine ⟨?_, ?_⟩
 ·unfold cgS; rw [List.filter_append]; simp [cgP, h0]
 ·unfold cgN; rw [List.foldl_append]; simp [h0]
theorem zh6 (m : Mn) (k : Int) (l : List Par) : (cgS m k l).length <= l.length := List.length_filter_le _ _
theorem zkG (m : Mn) (k : Int) {B : Nat} : ∀ (l : List Par), (∀ p ∈ l, p.items.length <= B) -> 0 <= cgN m k l /\ cgN m k l <= 2 * B + 2 := by
 intro l hl;unfold cgN
 have key : ∀ (l : List Par) (a : Int), (∀ p ∈ l, p.items.length <= B) -> (0 <= a /\ a <= 2 * B + 2) -> 0 <= l.foldl (fun a p => if segE m k p.items = 0 then ((segV m k p.items).length : Int) else a) a /\ l.foldl (fun a p => if segE m k p.items = 0 then ((segV m k p.items).length : Int) else a) a <= 2 * B + 2 := by
  intro l
  induction l with
  | nil => intro a _ h; exact h
  | cons p r ih =>
   intro a hp h;rw [List.foldl_cons];refine ih _ (fun q hq => hp q (List.mem_cons_of_mem _ hq)) ?_;split
   ·have h1 := za1 m k p.items;have h2 := hp p (by simp);omega
   ·exact h
 exact key l 0 hl ⟨by omega, by omega⟩
end
def br1 (m : Mn) (k : Int) (p : Par) : List Par := (alV m k p.items p.now).map (parM p)
def brF (m : Mn) (k : Int) (l : List Par) : List Par := l.flatMap (br1 m k)
theorem zkH (m : Mn) (k : Int) (l : List Ite) (M : List Int) : (alV m k l M).length <= 5 := by
 unfold alV; split
 ·exact zov _ _ _ _ _ _
 ·simp
theorem zoP (m : Mn) (k : Int) (p : Par) : (br1 m k p).length <= 5 := by unfold br1; rw [List.length_map]; exact zkH _ _ _ _
theorem zh7 (m : Mn) (k : Int) : ∀ (l : List Par), (brF m k l).length <= 5 * l.length
 | [] => by simp [brF]
 | p :: r => by
  have := zh7 m k r;have := zoP m k p;unfold brF at *
  rw [List.flatMap_cons, List.length_append, List.length_cons]; omega
structure PB (a b c : Nat) (p : Par) : Prop where
 i : p.items.length <= a
 n : p.now.length <= b
 d : p.made.length <= c
theorem zpT {m : Mn} {k : Int} {a b c : Nat} {l : List Par} (h : ∀ p ∈ l, PB a b c p) : ∀ p ∈ brF m k l, PB a (b + 1) c p := by
 intro p hp;unfold brF at hp;obtain ⟨q, hq, hp⟩ := List.mem_flatMap.1 hp;unfold br1 at hp;obtain ⟨x, hx, rfl⟩ := List.mem_map.1 hp;have := h q hq;exact ⟨this.i, by show (q.now ++ [x]).length <= _; rw [List.length_append]; have := this.n; simp; omega, this.d⟩
theorem zpU {m : Mn} {k : Int} {a b c : Nat} {l : List Par} (h : ∀ p ∈ l, PB a b c p) : ∀ p ∈ cgS m k l, PB a b c p := fun p hp => h p (List.mem_filter.1 hp).1
def brX (m : Mn) (k : Int) : Nat -> List Par -> List Par × Int
 | 0, l => (l, 0)
 | n + 1, l => if 4096 < (brF m k l).length then ([], 15) else brX m k n (brF m k l)
def ap1 (m : Mn) (k : Int) (p : Par) : Par := ⟨apV m k p.items p.now, [], p.made ++ p.now⟩
def alvR (m : Mn) (k : Int) (l : List Par) : List Par × Int := brX m k (cgN m k l).toNat (cgS m k l)
def alvE (m : Mn) (k : Int) (l : List Par) : Int := (alvR m k l).2
def alvV (m : Mn) (k : Int) (l : List Par) : List Par := if alvE m k l = 0 then (alvR m k l).1.map (ap1 m k) else []
def brN (m : Mn) (k : Int) (l : List Par) : Nat -> List Par
 | 0 => cgS m k l
 | n + 1 => brF m k (brN m k l n)
theorem zm1 (m : Mn) (k : Int) : ∀ (n : Nat) (l : List Par), (brX m k n l).2 = 0 \/ (brX m k n l).2 = 15
 | 0, l => .inl rfl
 | n + 1, l => by
  unfold brX; split
  ·exact .inr rfl
  ·exact zm1 m k n _
structure BrJ (m : Mn) (k : Int) (l : List Par) (n : Nat) : Prop where
 le : n <= (cgN m k l).toNat
 go : alvR m k l = brX m k ((cgN m k l).toNat - n) (brN m k l n)
theorem zsW (m : Mn) (k : Int) (l : List Par) : BrJ m k l 0 := ⟨Nat.zero_le _, by unfold alvR; rw [Nat.sub_zero]; rfl⟩
section
variable {m : Mn} {k : Int} {l : List Par} {n : Nat}
theorem BrJ.s (h : BrJ m k l n) (hn : n < (cgN m k l).toNat) (h2 : (brF m k (brN m k l n)).length <= 4096) : BrJ m k l (n + 1) := by
 refine ⟨hn, ?_⟩;rw [h.go, show (cgN m k l).toNat - n = ((cgN m k l).toNat - (n + 1)) + 1 by omega];conv => lhs; unfold brX
 rw [if_neg (by omega)]; rfl
theorem BrJ.bad (h : BrJ m k l n) (hn : n < (cgN m k l).toNat) (h2 : 4096 < (brF m k (brN m k l n)).length) : alvE m k l = 15 /\ alvV m k l = [] := by
 have e : alvR m k l = ([], 15) := by
  rw [h.go, show (cgN m k l).toNat - n = ((cgN m k l).toNat - (n + 1)) + 1 by omega];conv => lhs; unfold brX
  rw [if_pos h2]
 have e2 : alvE m k l = 15 := by unfold alvE; rw [e]
 refine ⟨e2, ?_⟩; unfold alvV; rw [e2]; rfl
theorem BrJ.fin (h : BrJ m k l n) (hn : n = (cgN m k l).toNat) : alvE m k l = 0 /\ (brN m k l n).map (ap1 m k) = alvV m k l := by
 have e : alvR m k l = (brN m k l n, 0) := by rw [h.go, hn, Nat.sub_self]; rfl
 have e2 : alvE m k l = 0 := by unfold alvE; rw [e]
 refine ⟨e2, ?_⟩; unfold alvV; rw [e2, if_pos rfl, e]
end
theorem zoQ (m : Mn) (k : Int) (l : List Par) : alvE m k l = 0 \/ alvE m k l = 15 := zm1 _ _ _ _
theorem zm2 {m : Mn} {k : Int} {a c : Nat} {l : List Par} (h : ∀ p ∈ l, PB a 0 c p) : ∀ n, ∀ p ∈ brN m k l n, PB a n c p
 | 0 => zpU h
 | n + 1 => zpT (zm2 h n)
theorem zm3 {m : Mn} {k : Int} : ∀ (n : Nat) (l : List Par), l.length <= 4096 -> (brX m k n l).2 = 0 -> (brX m k n l).1.length <= 4096
 | 0, l, h, _ => h
 | n + 1, l, h, h0 => by
  unfold brX at h0 ⊢;split
  ·simp
  ·rename_i h2;rw [if_neg h2] at h0;exact zm3 n _ (by omega) h0
theorem zm4 {m : Mn} {k : Int} {a c : Nat} : ∀ (n b : Nat) (l : List Par), (∀ p ∈ l, PB a b c p) -> ∀ p ∈ (brX m k n l).1, PB a (b + n) c p
 | 0, b, l, h => h
 | n + 1, b, l, h => by
  unfold brX;split
  ·simp
  ·intro p hp;have := zm4 n (b + 1) _ (zpT h) p hp
   rwa [show b + 1 + n = b + (n + 1) by omega] at this
theorem zm5 {m : Mn} {k : Int} {l : List Ite} {M : List Int} : (apV m k l M).length <= l.length := by
 by_cases h : apE m k l M = 0
 ·rw [zkx h]; exact Nat.le_refl _
 ·unfold apV; rw [if_neg h]; simp
theorem zjM {m : Mn} {k : Int} {a c : Nat} {l : List Par} (hl : l.length <= 4096) (h : ∀ p ∈ l, PB a 0 c p) : (alvV m k l).length <= 4096 /\ ∀ p ∈ alvV m k l, PB a 0 (c + (2 * a + 2)) p := by
 unfold alvV;split
 ·rename_i h0;have hN := zkG m k (B := a) l fun p hp => (h p hp).i
  refine ⟨?_, fun p hp => ?_⟩
  ·rw [List.length_map];exact zm3 _ _ (Nat.le_trans (zh6 m k l) hl) h0
  ·obtain ⟨q, hq, rfl⟩ := List.mem_map.1 hp;have hq2 : PB a (0 + (cgN m k l).toNat) c q := zm4 _ _ _ (zpU h) q hq;refine ⟨Nat.le_trans zm5 hq2.i, Nat.le_refl _, ?_⟩;show (q.made ++ q.now).length <= _;rw [List.length_append];have := hq2.n; have := hq2.d;omega
 ·exact ⟨by simp, by simp⟩
def cmL (m : Mn) : List Int -> List Par -> List Par × Int
 | [], l => (l, 0)
 | k :: r, l => if alvE m k l = 0 then cmL m r (alvV m k l) else ([], 15)
def cmI (m : Mn) (l : List Sg) (n : Int) : List Ite := itmV m l (iofD m l n) (iofM m l n)
def cmR (m : Mn) (l : List Sg) (n : Int) : List Par × Int := cmL m (perfL m) [⟨cmI m l n, [], []⟩]
def rdOf (d mi : List Int) (p : Par) : Rdg := ⟨d, mi, p.made, p.items.map (·.Dur)⟩
def cmE (m : Mn) (l : List Sg) (n : Int) : Int := (cmR m l n).2
def cmV (m : Mn) (l : List Sg) (n : Int) : List Rdg := if cmE m l n = 0 then (cmR m l n).1.map (rdOf (iofD m l n) (iofM m l n)) else []
def cmN (m : Mn) (L : List Int) (l : List Par) : Nat -> List Par
 | 0 => l
 | n + 1 => alvV m (L.getD n 0) (cmN m L l n)
structure CmJ (m : Mn) (L : List Int) (l : List Par) (n : Nat) : Prop where
 le : n <= L.length
 go : cmL m L l = cmL m (L.drop n) (cmN m L l n)
theorem zsX (m : Mn) (L : List Int) (l : List Par) : CmJ m L l 0 := ⟨Nat.zero_le _, rfl⟩
section
variable {m : Mn} {L : List Int} {l : List Par} {n : Nat} {k : Int}
theorem zpV (hk : L[n]? = some k) : alvV m k (cmN m L l n) = cmN m L l (n + 1) := by
 show _ = alvV m (L.getD n 0) _;rw [List.getD_eq_getElem?_getD, hk]; rfl
theorem CmJ.s (h : CmJ m L l n) (hk : L[n]? = some k) (h0 : alvE m k (cmN m L l n) = 0) : CmJ m L l (n + 1) := by
 have hlt := List.getElem?_eq_some_iff.1 hk;refine ⟨hlt.1, ?_⟩;rw [h.go, List.drop_eq_getElem_cons hlt.1, hlt.2];show (if alvE m k (cmN m L l n) = 0 then _ else _) = _;rw [if_pos h0, zpV hk]
theorem CmJ.bad (h : CmJ m L l n) (hk : L[n]? = some k) (h0 : ¬ alvE m k (cmN m L l n) = 0) : alvE m k (cmN m L l n) = 15 /\ cmL m L l = ([], 15) := by
 have hlt := List.getElem?_eq_some_iff.1 hk;refine ⟨(zoQ _ _ _).resolve_left h0, ?_⟩;rw [h.go, List.drop_eq_getElem_cons hlt.1, hlt.2];show (if alvE m k (cmN m L l n) = 0 then _ else _) = _;rw [if_neg h0]
theorem CmJ.fin (h : CmJ m L l n) (hn : n = L.length) : cmL m L l = (cmN m L l n, 0) := by
 rw [h.go, hn, List.drop_length]; rfl
theorem zm6 {a : Nat} (hl : l.length <= 4096) (h : ∀ p ∈ l, PB a 0 0 p) : ∀ n, (cmN m L l n).length <= 4096 /\ ∀ p ∈ cmN m L l n, PB a 0 (n * (2 * a + 2)) p
 | 0 => ⟨hl, by simpa [cmN] using h⟩
 | n + 1 => by
  obtain ⟨i1, i2⟩ := zm6 hl h n;have := zjM (m := m) (k := L.getD n 0) i1 i2;refine ⟨this.1, fun p hp => ?_⟩;have := this.2 p hp
  rwa [Nat.add_mul, Nat.one_mul]
end
def aqN (m : Mn) (l : List Sg) : Nat -> List Rdg
 | 0 => []
 | n + 1 => aqN m l n ++ cmV m l n
def aqX (m : Mn) (l : List Sg) : Nat -> Bool
 | 0 => true
 | n + 1 => aqX m l n && decide (cmE m l n = 0) && decide ((aqN m l (n + 1)).length <= 4096)
def aqE (m : Mn) (l : List Sg) : Int :=
 if ictE m l = 0 then (if aqX m l (ictV m l).toNat = true then (if (aqN m l (ictV m l).toNat).length = 0 then 14 else 0) else 15) else ictE m l
def aqV (m : Mn) (l : List Sg) : List Rdg := if aqE m l = 0 then aqN m l (ictV m l).toNat else []
section
variable {m : Mn} {l : List Sg} {n : Nat}
theorem zsY {N : Nat} (h : aqX m l (n + 1) = false) : n + 1 <= N -> aqX m l N = false := by
 intro hN
 induction N with
 | zero => omega
 | succ N ih =>
  rcases Nat.lt_or_ge (n + 1) (N + 1) with h1 | h1
  ·show (aqX m l N && _ && _) = false;rw [ih (by omega)]; rfl
  ·have : N = n := by omega
   subst this; exact h
theorem zsZ (h : ¬ ictE m l = 0) : aqE m l = ictE m l /\ aqV m l = [] := by
 have : aqE m l = ictE m l := by unfold aqE; rw [if_neg h]
 refine ⟨this, ?_⟩; unfold aqV; rw [this, if_neg h]
theorem zoR (h : ictE m l = 0) (hn : (n : Int) < ictV m l) (h2 : ¬ cmE m l n = 0 \/ 4096 < (aqN m l (n + 1)).length) : aqE m l = 15 /\ aqV m l = [] := by
 have hx : aqX m l (n + 1) = false := by
  show (aqX m l n && decide (cmE m l n = 0) && decide ((aqN m l (n + 1)).length <= 4096)) = false;rcases h2 with h2 | h2
  ·rw [decide_eq_false h2]; simp
  ·rw [decide_eq_false (show ¬ (aqN m l (n + 1)).length <= 4096 by omega)]; simp
 have := zsY (N := (ictV m l).toNat) hx (by omega);have : aqE m l = 15 := by unfold aqE; rw [if_pos h, if_neg (by rw [this]; decide)]
 refine ⟨this, ?_⟩; unfold aqV; rw [this]; rfl
theorem zs0 (h : aqX m l n = true) (h2 : cmE m l n = 0) (h3 : (aqN m l (n + 1)).length <= 4096) : aqX m l (n + 1) = true := by
 show (aqX m l n && decide (cmE m l n = 0) && decide ((aqN m l (n + 1)).length <= 4096)) = true;rw [h, decide_eq_true h2, decide_eq_true h3]; rfl
theorem zs1 (h : ictE m l = 0) (hn : n = (ictV m l).toNat) (hx : aqX m l n = true) (h0 : (aqN m l n).length = 0) : aqE m l = 14 /\ aqV m l = [] := by
 subst hn;have : aqE m l = 14 := by unfold aqE; rw [if_pos h, if_pos hx, if_pos h0]
 refine ⟨this, ?_⟩; unfold aqV; rw [this]; rfl
theorem zs2 (h : ictE m l = 0) (hn : n = (ictV m l).toNat) (hx : aqX m l n = true) (h0 : ¬ (aqN m l n).length = 0) : aqE m l = 0 /\ aqN m l n = aqV m l := by
 subst hn;have : aqE m l = 0 := by unfold aqE; rw [if_pos h, if_pos hx, if_neg h0]
 refine ⟨this, ?_⟩; unfold aqV; rw [this]; rfl
theorem zh8 : ∀ {n : Nat}, aqX m l n = true -> (aqN m l n).length <= 4096
 | 0, _ => by simp [aqN]
 | n + 1, h => by
  have h : (aqX m l n && decide (cmE m l n = 0) && decide ((aqN m l (n + 1)).length <= 4096)) = true := h;simp only [Bool.and_eq_true, decide_eq_true_eq] at h;exact h.2
theorem zfx (m : Mn) (l : List Sg) : (aqV m l).length <= 4096 := by
 unfold aqV; split
 ·rename_i h;unfold aqE at h;split at h
  ·split at h
   ·rename_i hx; exact zh8 hx
   ·cases h
  ·exact absurd h (by assumption)
 ·simp
end
end Go.Rse
namespace Go.Rse
open Go Go.Proofs
attribute [local irreducible] Pur yx yz Ex X Fn Imp LeV LeB FnO It yC FnW FnOW
def bqX (m : Mn) (k : Int) (l : List Par) : List (List AV) := (brF m k l).map fun p => [parA p]
theorem zkI (m : Mn) (k : Int) (l : List Par) : (bqX m k l).length = (brF m k l).length := by unfold bqX; simp
theorem zh9 {m : Mn} {k : Int} {l : List Par} {j : Nat} {zs : List AV} (h : (bqX m k l)[j]? = some zs) : ∃ p, (brF m k l)[j]? = some p /\ zs = [parA p] := by
 rw [bqX, List.getElem?_map] at h;cases hk : (brF m k l)[j]? with
 | none => simp [hk] at h
 | some p => simp [hk] at h; exact ⟨p, rfl, h.symm⟩
theorem zpW {m : Mn} {k : Int} {l : List Par} {n : Nat} {p : Par} (h : l[n]? = some p) : brF m k (l.take (n + 1)) = brF m k (l.take n) ++ br1 m k p := by
 rw [List.take_add_one, h];unfold brF; simp [List.flatMap_append]
theorem zoS {m : Mn} {k : Int} {l : List Par} (n : Nat) : ∃ r, brF m k l = brF m k (l.take n) ++ r :=
 ⟨brF m k (l.drop n), by conv => lhs; rw [← List.take_append_drop n l]
                         unfold brF; rw [List.flatMap_append]⟩
theorem zrd {m : Mn} {k : Int} {l : List Par} {n j : Nat} {p : Par} {c : Int} (h : l[n]? = some p) (hc : (alV m k p.items p.now)[j]? = some c) : (bqX m k l)[(brF m k (l.take n)).length + j]? = some [parA (parM p c)] := by
 obtain ⟨r, hr⟩ := zoS (m := m) (k := k) (l := l) (n + 1);rw [zpW h] at hr;have hj := (List.getElem?_eq_some_iff.1 hc).1
 have e : (brF m k l)[(brF m k (l.take n)).length + j]? = some (parM p c) := by
  rw [hr, List.append_assoc, List.getElem?_append_right (by omega), Nat.add_sub_cancel_left, List.getElem?_append_left (by unfold br1; rw [List.length_map]; exact hj)];unfold br1; rw [List.getElem?_map, hc]; rfl
 unfold bqX; rw [List.getElem?_map, e]; rfl
theorem zre (m : Mn) (k : Int) (p : Par) : (br1 m k p).length = (alV m k p.items p.now).length := by unfold br1; simp
attribute [local irreducible] alV alE segE segV brF bqX cgS cgN br1
theorem zcg (p : Par) (c : Int) (hn : p.now.length <= 4000000) : Fn Tryz.prog 163 [parA p, iv c] (parA (parM p c)) := by
 refine Fn.go Tryz.func163 Tryz.ntmps163 (fun g w d => ?_);apply yb;refine yF ?_;refine yH ?_;apply yj;iterate 2 refine ya ?_
 refine z6 [(5, 33)] (zq p.now (by omega)) ?_;refine ya ?_;refine y2 intE [_] ?_;refine Ex.mo ?_;refine ya ?_;refine Ex.mo ?_;apply Ex.nil;apply yd;refine X.imp (Imp.freeze (k := 33) rfl) ?_;apply yc;refine ya ?_;refine Ex.mo ?_;apply Ex.nil;refine X.ret ?_;refine RetQ.ret (.one (.cellA rfl rfl rfl rfl zlb (LeV.eq ?_)));all_goals (first | rfl | (simp_all; done))
set_option maxHeartbeats 4000000 in
theorem zdG (m : Mn) (k : Int) (l : List Par) (a b c : Nat) (h0 : -9223372036854775808 <= k) (h1 : k <= 9223372036854775807) (ha : a <= 1000000) (hl : l.length <= 100000) (hB : ∀ p ∈ l, PB a b c p) : FnO Tryz.prog 112 [mnA m, iv k, zab l] [] [] (.tup [.own 30, iv (cgN m k l)]) [(30, .row parE (cgS m k l) 124 3)] := by
 have hz0 : [] = cgS m k (l.take 0) := by unfold cgS; simp
 have hz1 : cgN m k (l.take 0) = 0 := by unfold cgN; simp
 refine FnO.intro (ts := [(0, mnA m), (1, iv k), (2, zab l)]) (rv := [.tmp 6, .tmp 7]) (n := 39) (cs := []) (by kernel_rfl) Tryz.func112 rfl Tryz.ntmps112 rfl rfl (by simp) rfl rfl rfl rfl (fun g w d vs => ?_);apply yb;refine yF ?_;iterate 2 refine ya ?_
 apply yj;refine ya ?_;apply yj;refine ye ?_;iterate 2 apply yd
 refine X.imp (y5 parE 124 3 8 30 rfl rfl) ?_;apply yc;refine yn ?_;apply X.block
 refine zh (ι := Nat) (fun (n : Nat) => [(1, iv k), (3, .ptr 3 0 0 0), (8, .own 30), (9, iv (cgN m k (l.take n))), (14, zab l), (15, iv l.length), (16, iv (n : Int))]) (fun (n : Nat) => [(1000001, .hold vs []), (3, .box (mnE m) 24), (30, .row parE (cgS m k (l.take n)) 124 3)]) (fun (n : Nat) => n <= l.length) (fun (n : Nat) => l.length - n) 0 (fun n hk => ?_) (h0 := by
  exact yw)
 apply yb;refine ye ?_;apply yd;refine yk rfl ?_ ?_<;>intro hc1
 ·obtain ⟨p, hp⟩ : ∃ p, l[n]? = some p := ⟨_, lgg (by omega)⟩;have hp2 : l[(n : Int).toNat]? = some p := by simpa using hp
  have hPB := hB p (List.mem_of_getElem? hp);have hln : (cgS m k (l.take n)).length <= 100000 := by have := zh6 m k (l.take n); rw [List.length_take] at this; omega
  apply yf;apply yd;apply X.block;apply yb;iterate 2 refine ya ?_
  refine yH ?_;refine Ex.mo ?_;apply yj;iterate 4 refine ya ?_
  refine yq (zae m k p.items h0 h1 (by have := hPB.i; omega)) ?_;iterate 5 refine ya ?_
  apply yj;refine yh ?_;refine yk rfl ?_ ?_<;>intro hc2
  ·have hZ1 := zug (m := m) (k := k) hp hc2;obtain ⟨q1, q2⟩ := hZ1;apply yc;(iterate 2 refine ya ?_);refine y2 parE [p] ?_;refine Ex.mo ?_;refine zT ?_;apply yc;refine yh ?_;refine yP (n + 1) (hI := yw)
  ·have hZ2 := zuh (m := m) (k := k) hp hc2;obtain ⟨q1, q2⟩ := hZ2;apply yf;apply yc;refine yh ?_;refine yP (n + 1) (hI := yw)
 ·obtain rfl : n = l.length := by omega
  rw [List.take_length];apply X.exit;apply yb;refine zT ?_;refine X.ret ?_;refine zkW.mk (ts := [(6, .own 30), (7, iv (cgN m k l))]) (.inr rfl) (yi) (.many (by decide) (.cons (.tmp rfl (LeV.eq rfl)) (.cons (.tmp rfl (LeV.eq rfl)) .nil)))
theorem zdH (m : Mn) (k : Int) (l : List Par) : Fn Tryz.prog 114 [mnA m, iv k, zab l] (.fn 161 [.ept (fun _ : Unit => [.sl parE l]) () 0, .ept (fun _ : Unit => mnE m) () 0, .ept (fun _ : Unit => [iv k]) () 0]) := by
 refine Fn.go Tryz.func114 Tryz.ntmps114 (fun g w d => ?_);apply yb;refine yF ?_;iterate 2 refine zcu ?_
 refine ya ?_;apply yj;refine yh ?_;refine X.ret ?_;refine RetQ.imp ((yU (k := 3) rfl rfl).trans ((yU (k := 4) rfl rfl).trans (yU (k := 5) rfl rfl))) ?_;refine ym ?_;all_goals (first | rfl | (simp_all; done))
set_option maxHeartbeats 4000000 in
theorem zcO (m : Mn) (k : Int) (l : List Par) (a b c : Nat) (h0 : -9223372036854775808 <= k) (h1 : k <= 9223372036854775807) (ha : a <= 1000000) (hb : b <= 3999999) (hl : l.length <= 100000) (hB : ∀ p ∈ l, PB a b c p) : It Tryz.prog 161 [.ept (fun _ : Unit => [.sl parE l]) () 0, .ept (fun _ : Unit => mnE m) () 0, .ept (fun _ : Unit => [iv k]) () 0] (bqX m k l) := by
 have hz0 : (brF m k (l.take 0)).length = 0 := by unfold brF; simp
 refine It.intro (ts := fun lY => [(0, .yv lY), (1, .ept (fun _ : Unit => [.sl parE l]) () 0), (2, .ept (fun _ : Unit => mnE m) () 0), (3, .ept (fun _ : Unit => [iv k]) () 0)]) (n := 41) (by kernel_rfl) Tryz.func161 rfl Tryz.ntmps161 rfl (fun _ => rfl) (by simp) (fun g w d ds Y lY hY => ?_);apply yb;refine yn ?_;apply X.block;refine zh (ι := Nat) (fun (n : Nat) => [(0, .yv lY), (1, .ept (fun _ : Unit => [.sl parE l]) () 0), (2, .ept (fun _ : Unit => mnE m) () 0), (3, .ept (fun _ : Unit => [iv k]) () 0), (11, zab l), (12, iv l.length), (13, iv (n : Int))]) (fun (n : Nat) => [(1000000, .yld (brF m k (l.take n)).length true)]) (fun (n : Nat) => n <= l.length) (fun (n : Nat) => l.length - n) 0 (fun n hk => ?_);apply yb;refine ye ?_;apply yd;refine yk rfl ?_ ?_<;>intro hc1
 ·obtain ⟨p, hp⟩ : ∃ p, l[n]? = some p := ⟨_, lgg (by omega)⟩;have hp2 : l[(n : Int).toNat]? = some p := by simpa using hp
  have hPB := hB p (List.mem_of_getElem? hp);have hal := zkH m k p.items p.now;apply yf;apply yd;apply X.block;apply yb;iterate 2 refine ya ?_
  refine yH ?_;refine Ex.mo ?_;apply yj;iterate 6 refine ya ?_
  refine yq (zfm m k p.items p.now h0 h1 (by have := hPB.i; omega) (by have := hPB.n; omega)) ?_;iterate 5 refine ya ?_
  apply yj;refine yn ?_;apply X.block;refine zh (ι := Nat) (fun (j : Nat) => [(0, .yv lY), (1, .ept (fun _ : Unit => [.sl parE l]) () 0), (2, .ept (fun _ : Unit => mnE m) () 0), (3, .ept (fun _ : Unit => [iv k]) () 0), (11, zab l), (12, iv l.length), (13, iv (n : Int)), (6, .ptr 6 0 0 0), (27, yg (alV m k p.items p.now)), (28, iv (alV m k p.items p.now).length), (29, iv (j : Int))]) (fun (j : Nat) => [(1000000, .yld ((brF m k (l.take n)).length + j) true), (6, .box (parE p) 124)]) (fun (j : Nat) => j <= (alV m k p.items p.now).length) (fun (j : Nat) => (alV m k p.items p.now).length - j) 0 (fun j hk => ?_);apply yb;refine ye ?_;apply yd;refine yk rfl ?_ ?_<;>intro hc2
  ·obtain ⟨x, hx⟩ : ∃ x, (alV m k p.items p.now)[j]? = some x := ⟨_, lgg (by omega)⟩;have hx2 : (alV m k p.items p.now)[(j : Int).toNat]? = some x := by simpa using hx
   have hyj := zrd (m := m) (k := k) hp hx;apply yf;apply yd;apply X.block;apply yb;(iterate 3 refine ya ?_);apply yj;(iterate 3 refine ya ?_);refine yq (zcg p x (by have := hPB.n; omega)) ?_;refine Ex.yield hY rfl rfl rfl (LeL.refl _) rfl rfl hyj rfl (fun b => ?_);refine ye ?_;refine yk rfl ?_ ?_<;>intro hc3
   ·subst hc3;refine X.ret ?_;refine ⟨.inr rfl, _, false, rfl, fun hb => by simp at hb⟩
   subst hc3;apply yf;apply yc;refine yh ?_;refine yP (j + 1)
  ·obtain rfl : j = (alV m k p.items p.now).length := by omega
   have hbs : (brF m k (l.take (n + 1))).length = (brF m k (l.take n)).length + (alV m k p.items p.now).length := by rw [zpW hp, List.length_append, zre]
   apply X.exit;apply yc;refine yh ?_;refine yP (n + 1)
 ·obtain rfl : n = l.length := by omega
  apply X.exit;refine ⟨.inl rfl, _, true, rfl, fun _ => by rw [zkI, List.take_length]⟩
end Go.Rse
namespace Go.Rse
open Go Go.Proofs
attribute [local irreducible] Pur yx yz Ex X Fn Imp LeV LeB FnO It yC FnW FnOW
theorem zjN {α : Type} {l : List α} {j : Nat} {x : α} (h : l[j]? = some x) : l.take j ++ [x] = l.take (j + 1) := by
 rw [List.take_add_one, h]; rfl
attribute [local irreducible] alV alE segE segV brF bqX cgS cgN br1
theorem zv (m : Mn) (k : Int) (z : List Par) (a b c : Nat) (h0 : -9223372036854775808 <= k) (h1 : k <= 9223372036854775807) (ha : a <= 1000000) (hb : b <= 3999999) (hl : z.length <= 100000) (hB : ∀ p ∈ z, PB a b c p) : FnO Tryz.prog 160 [.nils, .fn 161 [.ept (fun _ : Unit => [.sl parE z]) () 0, .ept (fun _ : Unit => mnE m) () 0, .ept (fun _ : Unit => [iv k]) () 0]] [] [] (.own 39) [(39, .row parE (brF m k z) 124 3)] := by
 have hpl := zh7 m k z;refine FnO.intro (ts := [(0, .nils), (1, .fn 161 [.ept (fun _ : Unit => [.sl parE z]) () 0, .ept (fun _ : Unit => mnE m) () 0, .ept (fun _ : Unit => [iv k]) () 0])]) (rv := [.tmp 4]) (n := 13) (cs := []) (by kernel_rfl) Tryz.func160 rfl Tryz.ntmps160 rfl rfl (by simp) rfl rfl rfl rfl (fun g w d vh => ?_);apply yb;refine zcu ?_;refine ye ?_;iterate 2 apply yd
 refine X.imp (zaU parE 124 3 2 39 125 rfl rfl) ?_;apply yc;refine ye ?_;apply X.block;have ht0 : [] = (brF m k z).take 0 := by simp
 have htl : (brF m k z).take (bqX m k z).length = brF m k z := by rw [zkI, List.take_length]
 refine X.range (sl := [2]) (fun j => ([.ptr 2 0 0 0], [(1000001, .hold vh []), (2, .box [.own 39] 125), (39, .row parE ((brF m k z).take j) 124 3)])) (fun j => True) 900001 900002 rfl rfl (by decide) (fun j zs hj => by obtain ⟨i, _, rfl⟩ := zh9 hj; rfl) (zcO m k z a b c h0 h1 ha hb hl hB) trivial rfl rfl (by decide) (Nat.zero_le _) (by simp) (fun j zs hj => by obtain ⟨i, _, rfl⟩ := zh9 hj; rfl) (fun _ => rfl) rfl rfl (fun l o us => yi) (trivial) (fun j zs hj hJ l ready busy rb vs g w hb hyB => ?_) (fun hJ => ?_)
 ·have hZ1 := zh9 hj;obtain ⟨p, hi, rfl⟩ := hZ1;have hst := zjN hi;have hlt : ((brF m k z).take j).length <= 1000000 := by rw [List.length_take]; omega
  apply yc;refine yH ?_;refine Ex.mo ?_;apply Ex.nil;refine ⟨rfl, rfl, ?_⟩;apply X.block;apply yc;iterate 2 refine ya ?_
  refine y2 parE [p] ?_;iterate 2 refine Ex.mo ?_
  apply Ex.nil;refine ⟨[.ptr 2 0 0 0], [(1000001, .hold vh []), (2, .box [.own 39] 125), (39, .row parE ((brF m k z).take (j + 1)) 124 3)], yi, rfl, trivial⟩
 apply yb;refine yh ?_;refine X.ret ?_;refine zkW.mk (ts := [(4, .own 39)]) (.inr rfl) (yi) (.one (.tmp rfl (LeV.eq rfl)))
theorem zaD (m : Mn) (k : Int) (z : List Par) (a b c : Nat) (h0 : -9223372036854775808 <= k) (h1 : k <= 9223372036854775807) (ha : a <= 1000000) (hb : b <= 3999999) (hl : z.length <= 100000) (hB : ∀ p ∈ z, PB a b c p) : FnO Tryz.prog 113 [.fn 161 [.ept (fun _ : Unit => [.sl parE z]) () 0, .ept (fun _ : Unit => mnE m) () 0, .ept (fun _ : Unit => [iv k]) () 0]] [] [] (.own 39) [(39, .row parE (brF m k z) 124 3)] := by
 refine FnO.intro (ts := [(0, .fn 161 [.ept (fun _ : Unit => [.sl parE z]) () 0, .ept (fun _ : Unit => mnE m) () 0, .ept (fun _ : Unit => [iv k]) () 0])]) (rv := [.tmp 2]) (n := 5) (cs := []) (by kernel_rfl) Tryz.func113 rfl Tryz.ntmps113 rfl rfl (by simp) rfl rfl rfl rfl (fun g w d vs => ?_);apply yb;refine ya ?_;apply yj;refine ya ?_;refine z6 [(39, 39)] (zv m k z a b c h0 h1 ha hb hl hB) ?_;refine ye ?_;refine X.ret ?_;refine zkW.mk (ts := [(2, .own 39)]) (.inr rfl) (yi) (.one (.tmp rfl (LeV.eq rfl)))
end Go.Rse
