/-
  Plain: what another meaning changes: items by their signs, pairs by their items.
-/
import Derived.Test.YtbilklnipfabpaaGreatDoorZJLvl16
import Derived.Test.YtbilklnipfabpaaGreatDoorZLogC
import Derived.Test.YtbilklnipfabpaaGreatDoorZLogB
import Derived.Test.YtbilklnipfabpaaGreatDoorZJItem1
import Derived.Test.YtbilklnipfabpaaGreatDoorZJCmb0
set_option linter.unusedSimpArgs false
set_option linter.unusedVariables false
namespace Go.Rse
open Go Go.Proofs
theorem zom {m : Mn} {l : List Sg} {x y : Int} (hx : za m l x = true) (hy : za m l y = true) : x ≠ y + 1 := fun e => by
 subst e;have a := (za7 hx).2.2.1;have b := (za7 hy).2.2.2.2;rw [b] at a; exact absurd a (by decide)
theorem zeI {m : Mn} {l : List Sg} : ∀ k, (zh m l k).Pairwise (fun a b => a + 1 < b)
 | 0 => by unfold zh; exact .nil
 | k + 1 => by
  unfold zh;split
  ·rename_i hp;refine List.pairwise_append.2 ⟨zeI k, by simp, fun a ha b hb => ?_⟩;simp at hb; subst hb;have h1 := zdp k a ha;have h2 := zom hp h1.1;omega
  ·exact zeI k
theorem zfW {m : Mn} {l : List Sg} {k : Nat} (h : za m l (k : Int) = true) : ∀ n, k < n -> (zh m l n)[(zh m l k).length]? = some (k : Int)
 | 0, hn => by omega
 | n + 1, hn => by
  rcases Nat.lt_or_ge k n with h1 | h1
  ·have ih := zfW h n h1;have hl := (List.getElem?_eq_some_iff.1 ih).1;cases hn1 : za m l (n : Int) with
   | true => rw [← zb1 hn1, List.getElem?_append, if_pos hl]; exact ih
   | false => rw [← zd3 hn1]; exact ih
  ·have : k = n := by omega
   subst this;rw [← zb1 h]; simp
theorem zky {p mi : List Int} (hp : p.Pairwise (fun a b => a + 1 < b)) : ∀ k, k <= p.length -> ∀ (j : Nat) x, j < k -> p[j]? = some x →
 mget x (zab p mi k) = (if mi[j]? = some 2 then some ⟨3, 2⟩ else none) /\ mget (x + 1) (zab p mi k) = (if mi[j]? = some 2 then some ⟨1, 2⟩ else none)
 | 0, _, j, x, hj, _ => by omega
 | k + 1, hk, j, x, hj, hx => by
  obtain ⟨y, hy⟩ : ∃ y, p[k]? = some y := ⟨_, lgg (by omega)⟩
  have gap : ∀ (i : Nat), i < k -> p.getD i 0 + 1 < y := fun i hi => by
   have h1 := List.pairwise_iff_getElem.1 hp i k (by omega) (by omega) hi;obtain ⟨_, e⟩ := List.getElem?_eq_some_iff.1 hy;rw [e] at h1;rw [zZ (lgg (show i < p.length by omega))]; exact h1
  by_cases hjk : j = k
  ·subst hjk;rw [hy] at hx; injection hx with hx; subst hx;unfold zab;rw [zZ hy];split
   ·rw [zU, zU, zU, if_neg (by omega), if_pos rfl, if_pos rfl]; exact ⟨rfl, rfl⟩
   ·constructor
    ·rcases zdq p mi y j with h | ⟨i, h1, h2⟩
     ·exact h
     ·have := gap i h1; omega
    ·rcases zdq p mi (y + 1) j with h | ⟨i, h1, h2⟩
     ·exact h
     ·have := gap i h1; omega
  ·have ih := zky (mi := mi) hp k (by omega) j x (by omega) hx;have g := gap j (by omega);rw [zZ hx] at g;unfold zab;rw [zZ hy];split
   ·have n1 : ¬ y + 1 = x := by omega
    have n2 : ¬ y = x := by omega
    have n3 : ¬ y + 1 = x + 1 := by omega
    have n4 : ¬ y = x + 1 := by omega
    simp only [zU, if_neg n1, if_neg n2, if_neg n3, if_neg n4]; exact ih
   ·exact ih
theorem zon {m : Mn} {l : List Sg} {mi : List Int} {k : Nat} (h1 : za m l (k : Int) = false) (h2 : ∀ j : Nat, j + 1 = k -> za m l (j : Int) = false) : mget (k : Int) (duM m l mi) = none := by
 unfold duM;rcases zdq (prL m l) mi (k : Int) (prL m l).length with h | ⟨j, hj, h⟩
 ·exact h
 ·exfalso;have hx : (prL m l)[j]? = some ((prL m l).getD j 0) := by rw [List.getD_eq_getElem?_getD, lgg hj]; rfl
  have hm := zoS (List.mem_of_getElem? hx);rcases h with h | h
  ·rw [← h, h1] at hm; cases hm.1
  ·have h3 := h2 ((prL m l).getD j 0).toNat (by omega);rw [show ((((prL m l).getD j 0).toNat : Nat) : Int) = (prL m l).getD j 0 by omega, hm.1] at h3; cases h3
theorem zq8 {l : List Sg} {k j : Nat} {s t : Sg} (hs : l[k]? = some s) (h : ¬ s.Kind = 3) (ht : l[j]? = some t) (h' : ¬ t.Kind = 3) (e : ntN l k = ntN l j) : k = j := by
 rcases Nat.lt_trichotomy k j with h1 | h1 | h1
 ·have := zdo hs h h1; omega
 ·exact h1
 ·have := zdo ht h' h1; omega
def iTM (m : Mn) (l : List Sg) (ch mi : List Int) (k : Nat) (s : Sg) : Ite := itOf k s (zx ch l l.length k).1 (zx ch l l.length k).2 ((mget (k : Int) (duM m l mi)).getD (bsT m s))
abbrev zhX (l : List Sg) : Prop := ∀ (i : Nat) z, l[i]? = some z -> z.Kind = 3 -> ∃ (j : Nat) (p : Sg), i = j + 1 /\ l[j]? = some p /\ ¬ p.Kind = 3
theorem itm_len {m : Mn} {l : List Sg} {ch mi : List Int} (h1 : mkE m l ch = 0) (h2 : duE m l mi = 0) : (itmV m l ch mi).length = ntN l l.length := by
 rw [zh4 (by unfold itmE; rw [if_pos h1, h2]), zfZ]
theorem zmk {m : Mn} {l : List Sg} {ch mi : List Int} (h1 : mkE m l ch = 0) (h2 : duE m l mi = 0) (hD : zhX l) {k : Nat} {s : Sg} (hs : l[k]? = some s) (h3 : ¬ s.Kind = 3) : (itmV m l ch mi)[ntN l k]? = some (iTM m l ch mi k s) := by
 have hk := (List.getElem?_eq_some_iff.1 hs).1;have hlt := zdo hs h3 hk;obtain ⟨x, hx⟩ : ∃ x, (itmV m l ch mi)[ntN l k]? = some x := ⟨_, lgg (by rw [itm_len h1 h2]; exact hlt)⟩;have hx' := hx;rw [zh4 (by unfold itmE; rw [if_pos h1, h2])] at hx;obtain ⟨j, t, hj, ht, h4, hn, rfl⟩ := zgd l.length hx;obtain rfl := zq8 ht h4 hs h3 hn;rw [hs] at ht; injection ht with ht; subst ht;rw [hx']; unfold iTM;have hat := zmZ (ch := ch) hD l.length j s hk hs h3;have hc : (mkC m l ch).getD (ntN l j) 0 = (zx ch l l.length j).1 := zZ (by unfold mkC; rw [if_pos h1]; exact hat.1);have ha : (mkA m l ch).getD (ntN l j) false = (zx ch l l.length j).2 := zZ (by unfold mkA; rw [if_pos h1]; exact hat.2);have hd : (duV m l mi).getD (ntN l j) ⟨0, 0⟩ = (mget (j : Int) (duM m l mi)).getD (bsT m s) := zZ (by unfold duV; rw [if_pos h2]; exact zh2 hs h3 l.length hk);rw [hc, ha, hd]
theorem zhj {l : List Sg} {k : Nat} {s : Sg} (hs : l[k]? = some s) (h3 : ¬ s.Kind = 3) : yK l (k + 1) = yK l k := by
 simp [yK, hs, h3]
theorem zml {l : List Sg} {k : Nat} {s : Sg} (hs : l[k]? = some s) (h3 : s.Kind = 3) : yK l (k + 1) = yK l k ++ [(k : Int)] := by
 simp [yK, hs, h3]
theorem zjH {m : Mn} {l : List Sg} {mi : List Int} (h2 : duE m l mi = 0) : ckD m l = 0 /\ mi.length = (zh m l l.length).length /\ mnOk mi = true := by
 unfold duE at h2;split at h2
 ·rename_i hc;split at h2
  ·rename_i h; exact ⟨hc, by rw [h.1]; unfold prL zN; rw [if_pos hc], h.2⟩
  ·cases h2
 ·rename_i hc; exact absurd h2 hc
theorem zpY {m : Mn} {l : List Sg} (hc : ckD m l = 0) : prL m l = zh m l l.length := by unfold prL zN; rw [if_pos hc]
theorem zfX {m : Mn} {l : List Sg} {mi : List Int} (h2 : duE m l mi = 0) {k : Nat} (hp : za m l (k : Int) = true) {y : Int} (hy : mi[(zh m l k).length]? = some y) :
 mget (k : Int) (duM m l mi) = (if y = 2 then some ⟨3, 2⟩ else none) /\ mget ((k + 1 : Nat) : Int) (duM m l mi) = (if y = 2 then some ⟨1, 2⟩ else none) := by
 have hd := zjH h2;have hf := za7 hp;have hat := zfW hp l.length (by omega);unfold duM;rw [zpY hd.1];have h := zky (mi := mi) (zeI (m := m) (l := l) l.length) _ (Nat.le_refl _) _ _ (List.getElem?_eq_some_iff.1 hat).1 hat;rw [hy] at h;by_cases e : y = 2
 ·subst e;rw [if_pos rfl, if_pos rfl];rw [if_pos rfl, if_pos rfl] at h;exact h
 ·rw [if_neg e, if_neg e];rw [if_neg (fun e2 => e (by injection e2)), if_neg (fun e2 => e (by injection e2))] at h;exact h
theorem pair_lt {m : Mn} {l : List Sg} {mi : List Int} (h2 : duE m l mi = 0) {k : Nat} (hp : za m l (k : Int) = true) : (zh m l k).length < mi.length := by
 have hf := za7 hp;have hat := zfW hp l.length (by omega);rw [(zjH h2).2.1]; exact (List.getElem?_eq_some_iff.1 hat).1
theorem zkz {m : Mn} {l : List Sg} {k : Nat} (hp : za m l (k : Int) = true) : ∃ s t, l[k]? = some s /\ l[k + 1]? = some t /\ clr s = true /\ clr t = true /\ s.Kind = 1 /\ t.Kind = 1 /\ s.Value = 4 /\ t.Value = 5 /\ (∀ z, l[k + 2]? = some z -> ¬ z.Kind = 3) := by
 have hf := za7 hp;have hl : k + 1 < l.length := by omega
 have g : ∀ i : Nat, i < l.length -> l[i]? = some (l.getD i default) := fun i hi => by rw [List.getD_eq_getElem?_getD, lgg hi]; rfl
 have e1 : ((k : Int) + 1).toNat = k + 1 := by omega
 rw [Int.toNat_natCast, e1] at hf;have kk : ∀ s : Sg, clr s = true -> s.Kind = 1 := fun s h => by unfold clr at h; simp at h; exact h.1
 refine ⟨_, _, g k (by omega), g (k + 1) hl, hf.2.1, hf.2.2.2.1, kk _ hf.2.1, kk _ hf.2.2.2.1, hf.2.2.1, hf.2.2.2.2, fun z hz h3 => ?_⟩;unfold za zaz at hp;simp only [Bool.and_eq_true, decide_eq_true_eq, Bool.not_eq_true', Bool.and_eq_false_iff, decide_eq_false_iff_not] at hp;have h := hp.2.1.1.2;have e2 : ((k : Int) + 2).toNat = k + 2 := by omega
 rw [e2, zZ hz] at h;have := (List.getElem?_eq_some_iff.1 hz).1;rcases h with h | h
 ·omega
 ·exact h h3
theorem zmm {m : Mn} {l : List Sg} {ch mi : List Int} (h : itmE m l ch mi = 0) : mkE m l ch = 0 /\ duE m l mi = 0 := by
 unfold itmE at h;split at h
 ·exact ⟨by assumption, h⟩
 ·exact absurd h (by assumption)
section
variable {m : Mn} {l : List Sg} {a b d g : List Int} {k : Nat} {s : Sg}
end
end Go.Rse
namespace Go.Rse
open Go Go.Proofs
attribute [local irreducible] Pur yD yE Ex X Fn Imp LeV LeB FnO It yH FnW FnOW
end Go.Rse
namespace Go.Rse
open Go Go.Proofs
attribute [local irreducible] Pur yD yE Ex X Fn Imp LeV LeB FnO It yH FnW FnOW
attribute [local irreducible] stK okJ alK alQ chN chL segV segE unT
end Go.Rse
namespace Go.Rse
open Go Go.RowKit
section
variable {P : Program} {C : Ctx} {st : St} {ty : TypeId}
end
end Go.Rse
namespace Go.Rse
open Go Go.Proofs
attribute [local irreducible] Pur yD yE Ex X Fn Imp LeV LeB FnO It yH FnW FnOW
attribute [local irreducible] stK okJ alK alQ segV segE unT
end Go.Rse
namespace Go.Rse
open Go Go.Proofs
attribute [local irreducible] Pur yD yE Ex X Fn Imp LeV LeB FnO It yH FnW FnOW
attribute [local irreducible] apV apE ckM perfL ckIE ckIX
end Go.Rse
namespace Go.Rse
open Go Go.RowKit
end Go.Rse
namespace Go.Rse
open Go Go.Proofs
attribute [local irreducible] Pur yD yE Ex X Fn Imp LeV LeB FnO It yH FnW FnOW
attribute [local irreducible] apV apE ckM perfL ckIE ckIX
end Go.Rse
namespace Go.Rse
open Go Go.Proofs
attribute [local irreducible] Pur yD yE Ex X Fn Imp LeV LeB FnO It yH FnW FnOW
end Go.Rse
namespace Go.Rse
open Go Go.RowKit
section
variable {P : Program} {C : Ctx} {st : St} {ty : TypeId} {Q : Exit -> St -> Prop}
end
end Go.Rse
namespace Go.Rse
open Go Go.Proofs
attribute [local irreducible] Pur yD yE Ex X Fn Imp LeV LeB FnO It yH FnW FnOW
attribute [local irreducible] apV apE ckM perfL ckIE ckIX
end Go.Rse
namespace Go.Rse
open Go Go.Proofs
attribute [local irreducible] Pur yD yE Ex X Fn Imp LeV LeB FnO It yH FnW FnOW
attribute [local irreducible] ckD zd4 twos prL itmV itmE
end Go.Rse
namespace Go.Rse
open Go Go.Proofs
attribute [local irreducible] Pur yD yE Ex X Fn Imp LeV LeB FnO It yH FnW FnOW
end Go.Rse
namespace Go.Rse
open Go Go.Proofs
theorem zmn {m : Mn} {s : Sg} (hM : ckM m = 0) (h1 : 1 <= s.Value) (h8 : s.Value <= 8) : ∀ v ∈ mngs m s, 0 <= v /\ v <= 8 := by
 intro v hv;have ha := zhQ (m := m) h1;by_cases hz : s.Kind = 2 /\ m.aV s.Value = 0
 ·have := (zb0 hM h1 h8).2 hz;rw [List.length_eq_zero_iff.1 this] at hv; simp at hv
 ·rw [zhR hM h1 h8 hz] at hv;unfold mngR at hv
  repeat' (split at hv)
  all_goals (simp at hv; omega)
theorem zoo {m : Mn} {l : List Sg} {ch : List Int} (h : mkE m l ch = 0) {k : Nat} {s : Sg} (hs : l[k]? = some s) (h3 : ¬ s.Kind = 3) : 0 <= (zx ch l l.length k).1 /\ (zx ch l l.length k).1 <= 8 := by
 obtain ⟨hM, v1, v8⟩ := zO (zbR h) hs h3;unfold zx;cases hz : l[k + 1]? with
 | none => exact ⟨Int.le_refl 0, show (0 : Int) <= 8 by decide⟩
 | some z =>
  simp only;split
  ·rename_i hd;have hat := zge hz hd.2 l.length hd.1;obtain ⟨e1, e2⟩ := zjR h
   have hmn : (mnsD m l)[(yK l (k + 1)).length]? = some (mngs m s) := by
    unfold mnsD;rw [List.getElem?_map, hat];show some (mnAt m l ((k + 1 : Nat) : Int)) = _;unfold mnAt zfa;rw [show (((k + 1 : Nat) : Int) - 1).toNat = k by omega, hs]
   have hlt := (List.getElem?_eq_some_iff.1 hmn).1;obtain ⟨v, hv⟩ : ∃ v, ch[(yK l (k + 1)).length]? = some v := ⟨_, lgg (by omega)⟩;have hmem := zbZ.1 e2 _ _ _ hmn hv;show 0 <= ch.getD (yK l (k + 1)).length 0 /\ ch.getD (yK l (k + 1)).length 0 <= 8;rw [zZ hv];exact zmn hM v1 v8 v hmem
  ·exact ⟨Int.le_refl 0, show (0 : Int) <= 8 by decide⟩
def okT (m : Mn) (v : Int) : Bool := decide (ckT (fullT m v) = 0) && decide (ckT (durT m v) = 0) && decide (ckT (mulV (fullT m v) ⟨3, 2⟩) = 0) && decide (ckT (mulV (durT m v) ⟨3, 2⟩) = 0)
theorem zop : zd6 okT = true := by kernel_rfl
theorem zq9 {m : Mn} {s : Sg} {z : Tm} (hm : ckM m = 0) (h1 : 1 <= s.Value) (h8 : s.Value <= 8) (hz : z = bsT m s \/ z = ⟨3, 2⟩ \/ z = ⟨1, 2⟩) : ckT z = 0 /\ ckT (mulV z ⟨3, 2⟩) = 0 := by
 have h := zaU zop hm h1 h8;unfold okT at h;simp only [Bool.and_eq_true, decide_eq_true_eq] at h;rcases hz with rfl | rfl | rfl
 ·unfold bsT; split
  ·exact ⟨h.1.1.2, h.2⟩
  ·exact ⟨h.1.1.1, h.1.2⟩
 ·exact ⟨by decide +kernel, by decide +kernel⟩
 ·exact ⟨by decide +kernel, by decide +kernel⟩
theorem zsA {m : Mn} {l : List Sg} {ch mi : List Int} (h1 : mkE m l ch = 0) {k : Nat} {s : Sg} (hs : l[k]? = some s) (h3 : ¬ s.Kind = 3) : itP (iTM m l ch mi k s) := by
 obtain ⟨hM, v1, v8⟩ := zO (zbR h1) hs h3;have hc := zoo h1 hs h3
 have hz : ∀ z, z = (mget (k : Int) (duM m l mi)).getD (bsT m s) -> z = bsT m s \/ z = ⟨3, 2⟩ \/ z = ⟨1, 2⟩ := by
  intro z hz;cases hq : mget (k : Int) (duM m l mi) with
  | none => rw [hq] at hz; exact .inl hz
  | some x => rw [hq] at hz; exact .inr (by rw [show z = x from hz]; exact zaV _ _ _ _ _ hq)
 have hz := hz _ rfl;unfold iTM;generalize (mget (k : Int) (duM m l mi)).getD (bsT m s) = z at *
 generalize (zx ch l l.length k).1 = c at *
 generalize (zx ch l l.length k).2 = a at *
 have hp := zoT hM v1 v8 hz;have ho := zq9 hM v1 v8 hz;have e01 : ckT ⟨0, 1⟩ = 0 := by decide +kernel
 refine ⟨zjL ⟨⟨v1, v8, hc.1, hc.2⟩, ?_, e01, e01, ?_⟩, ?_⟩
 ·show ckT (if a = true then mulV z ⟨3, 2⟩ else z) = 0;split
  ·exact ho.2
  ·exact ho.1
 ·intro hk;have hk : (decide (s.Kind = 2) = true /\ clr s = true) \/ ((decide (s.Kind = 2) = true \/ clr s = true) /\ (a || decide (s.Kind = 2) || clr s || decide (c = s.Value)) = false) := hk;simp only [Bool.or_eq_false_iff] at hk;rcases hk with ⟨h4, h5⟩ | ⟨h4 | h4, h5⟩
  ·have h4 := of_decide_eq_true h4;unfold clr at h5; rw [h4] at h5; simp at h5
  ·rw [h5.1.1.2] at h4; cases h4
  ·rw [h5.1.2] at h4; cases h4
 ·show 1 <= (if a = true then mulV z ⟨3, 2⟩ else z).N;split
  ·exact hp.2
  ·exact hp.1
section
variable {m : Mn} {l : List Sg}
end
end Go.Rse
namespace Go.Rse
open Go Go.Proofs
structure Par where
 items : List Ite
 now : List Int
 made : List Int
 deriving DecidableEq
def parE : Par -> List AV := fun p => [itsA p.items, yh p.now, yh p.made]
abbrev parA (p : Par) : AV := .agg (parE p)
abbrev zac (l : List Par) : AV := .sl parE l
def parM (p : Par) (c : Int) : Par := { p with now := p.now ++ [c] }
def cgP (m : Mn) (k : Int) (p : Par) : Bool := decide (segE m k p.items = 0)
def cgS (m : Mn) (k : Int) (l : List Par) : List Par := l.filter (cgP m k)
def cgN (m : Mn) (k : Int) (l : List Par) : Int := l.foldl (fun a p => if segE m k p.items = 0 then ((segV m k p.items).length : Int) else a) 0
section
variable {m : Mn} {k : Int} {l : List Par} {n : Nat} {p : Par}
theorem zut (h : l[n]? = some p) (h0 : segE m k p.items = 0) : cgS m k (l.take n) ++ [p] = cgS m k (l.take (n + 1)) /\ ((segV m k p.items).length : Int) = cgN m k (l.take (n + 1)) := by
 rw [List.take_add_one, h];refine ⟨?_, ?_⟩
 ·unfold cgS; rw [List.filter_append]; simp [cgP, h0]
 ·unfold cgN; rw [List.foldl_append]; simp [h0]
theorem zuu (h : l[n]? = some p) (h0 : ¬ segE m k p.items = 0) : cgS m k (l.take n) = cgS m k (l.take (n + 1)) /\ cgN m k (l.take n) = cgN m k (l.take (n + 1)) := by
 rw [List.take_add_one, h];refine ⟨?_, ?_⟩
 ·unfold cgS; rw [List.filter_append]; simp [cgP, h0]
 ·unfold cgN; rw [List.foldl_append]; simp [h0]
theorem zhY (m : Mn) (k : Int) (l : List Par) : (cgS m k l).length <= l.length := List.length_filter_le _ _
theorem zkA (m : Mn) (k : Int) {B : Nat} : ∀ (l : List Par), (∀ p ∈ l, p.items.length <= B) -> 0 <= cgN m k l /\ cgN m k l <= 2 * B + 2 := by
 intro l hl;unfold cgN
 have key : ∀ (l : List Par) (a : Int), (∀ p ∈ l, p.items.length <= B) -> (0 <= a /\ a <= 2 * B + 2) -> 0 <= l.foldl (fun a p => if segE m k p.items = 0 then ((segV m k p.items).length : Int) else a) a /\ l.foldl (fun a p => if segE m k p.items = 0 then ((segV m k p.items).length : Int) else a) a <= 2 * B + 2 := by
  intro l
  induction l with
  | nil => intro a _ h; exact h
  | cons p r ih =>
   intro a hp h;rw [List.foldl_cons];refine ih _ (fun q hq => hp q (List.mem_cons_of_mem _ hq)) ?_;split
   ·have h1 := zbs m k p.items;have h2 := hp p (by simp);omega
   ·exact h
 exact key l 0 hl ⟨by omega, by omega⟩
end
def br1 (m : Mn) (k : Int) (p : Par) : List Par := (alV m k p.items p.now).map (parM p)
def brF (m : Mn) (k : Int) (l : List Par) : List Par := l.flatMap (br1 m k)
theorem zkB (m : Mn) (k : Int) (l : List Ite) (M : List Int) : (alV m k l M).length <= 5 := by
 unfold alV; split
 ·exact zoL _ _ _ _ _ _
 ·simp
theorem zoq (m : Mn) (k : Int) (p : Par) : (br1 m k p).length <= 5 := by unfold br1; rw [List.length_map]; exact zkB _ _ _ _
theorem zhZ (m : Mn) (k : Int) : ∀ (l : List Par), (brF m k l).length <= 5 * l.length
 | [] => by simp [brF]
 | p :: r => by
  have := zhZ m k r;have := zoq m k p;unfold brF at *
  rw [List.flatMap_cons, List.length_append, List.length_cons]; omega
structure PB (a b c : Nat) (p : Par) : Prop where
 i : p.items.length <= a
 n : p.now.length <= b
 d : p.made.length <= c
theorem zpZ {m : Mn} {k : Int} {a b c : Nat} {l : List Par} (h : ∀ p ∈ l, PB a b c p) : ∀ p ∈ brF m k l, PB a (b + 1) c p := by
 intro p hp;unfold brF at hp;obtain ⟨q, hq, hp⟩ := List.mem_flatMap.1 hp;unfold br1 at hp;obtain ⟨x, hx, rfl⟩ := List.mem_map.1 hp;have := h q hq;exact ⟨this.i, by show (q.now ++ [x]).length <= _; rw [List.length_append]; have := this.n; simp; omega, this.d⟩
theorem zp0 {m : Mn} {k : Int} {a b c : Nat} {l : List Par} (h : ∀ p ∈ l, PB a b c p) : ∀ p ∈ cgS m k l, PB a b c p := fun p hp => h p (List.mem_filter.1 hp).1
def brX (m : Mn) (k : Int) : Nat -> List Par -> List Par × Int
 | 0, l => (l, 0)
 | n + 1, l => if 4096 < (brF m k l).length then ([], 15) else brX m k n (brF m k l)
def ap1 (m : Mn) (k : Int) (p : Par) : Par := ⟨apV m k p.items p.now, [], p.made ++ p.now⟩
def alvR (m : Mn) (k : Int) (l : List Par) : List Par × Int := brX m k (cgN m k l).toNat (cgS m k l)
def alvE (m : Mn) (k : Int) (l : List Par) : Int := (alvR m k l).2
def alvV (m : Mn) (k : Int) (l : List Par) : List Par := if alvE m k l = 0 then (alvR m k l).1.map (ap1 m k) else []
def brN (m : Mn) (k : Int) (l : List Par) : Nat -> List Par
 | 0 => cgS m k l
 | n + 1 => brF m k (brN m k l n)
theorem zmo (m : Mn) (k : Int) : ∀ (n : Nat) (l : List Par), (brX m k n l).2 = 0 \/ (brX m k n l).2 = 15
 | 0, l => .inl rfl
 | n + 1, l => by
  unfold brX; split
  ·exact .inr rfl
  ·exact zmo m k n _
structure BrJ (m : Mn) (k : Int) (l : List Par) (n : Nat) : Prop where
 le : n <= (cgN m k l).toNat
 go : alvR m k l = brX m k ((cgN m k l).toNat - n) (brN m k l n)
theorem zsB (m : Mn) (k : Int) (l : List Par) : BrJ m k l 0 := ⟨Nat.zero_le _, by unfold alvR; rw [Nat.sub_zero]; rfl⟩
section
variable {m : Mn} {k : Int} {l : List Par} {n : Nat}
theorem BrJ.s (h : BrJ m k l n) (hn : n < (cgN m k l).toNat) (h2 : (brF m k (brN m k l n)).length <= 4096) : BrJ m k l (n + 1) := by
 refine ⟨hn, ?_⟩;rw [h.go, show (cgN m k l).toNat - n = ((cgN m k l).toNat - (n + 1)) + 1 by omega];conv => lhs; unfold brX
 rw [if_neg (by omega)]; rfl
theorem BrJ.bad (h : BrJ m k l n) (hn : n < (cgN m k l).toNat) (h2 : 4096 < (brF m k (brN m k l n)).length) : alvE m k l = 15 /\ alvV m k l = [] := by
 have e : alvR m k l = ([], 15) := by
  rw [h.go, show (cgN m k l).toNat - n = ((cgN m k l).toNat - (n + 1)) + 1 by omega];conv => lhs; unfold brX
  rw [if_pos h2]
 have e2 : alvE m k l = 15 := by unfold alvE; rw [e]
 refine ⟨e2, ?_⟩; unfold alvV; rw [e2]; rfl
theorem BrJ.fin (h : BrJ m k l n) (hn : n = (cgN m k l).toNat) : alvE m k l = 0 /\ (brN m k l n).map (ap1 m k) = alvV m k l := by
 have e : alvR m k l = (brN m k l n, 0) := by rw [h.go, hn, Nat.sub_self]; rfl
 have e2 : alvE m k l = 0 := by unfold alvE; rw [e]
 refine ⟨e2, ?_⟩; unfold alvV; rw [e2, if_pos rfl, e]
end
theorem zor (m : Mn) (k : Int) (l : List Par) : alvE m k l = 0 \/ alvE m k l = 15 := zmo _ _ _ _
theorem zmp {m : Mn} {k : Int} {a c : Nat} {l : List Par} (h : ∀ p ∈ l, PB a 0 c p) : ∀ n, ∀ p ∈ brN m k l n, PB a n c p
 | 0 => zp0 h
 | n + 1 => zpZ (zmp h n)
theorem zmq {m : Mn} {k : Int} : ∀ (n : Nat) (l : List Par), l.length <= 4096 -> (brX m k n l).2 = 0 -> (brX m k n l).1.length <= 4096
 | 0, l, h, _ => h
 | n + 1, l, h, h0 => by
  unfold brX at h0 ⊢;split
  ·simp
  ·rename_i h2;rw [if_neg h2] at h0;exact zmq n _ (by omega) h0
theorem zmr {m : Mn} {k : Int} {a c : Nat} : ∀ (n b : Nat) (l : List Par), (∀ p ∈ l, PB a b c p) -> ∀ p ∈ (brX m k n l).1, PB a (b + n) c p
 | 0, b, l, h => h
 | n + 1, b, l, h => by
  unfold brX;split
  ·simp
  ·intro p hp;have := zmr n (b + 1) _ (zpZ h) p hp
   rwa [show b + 1 + n = b + (n + 1) by omega] at this
theorem zms {m : Mn} {k : Int} {l : List Ite} {M : List Int} : (apV m k l M).length <= l.length := by
 by_cases h : apE m k l M = 0
 ·rw [zoM h]; exact Nat.le_refl _
 ·unfold apV; rw [if_neg h]; simp
theorem zmt {m : Mn} {k : Int} {a c : Nat} {l : List Par} (hl : l.length <= 4096) (h : ∀ p ∈ l, PB a 0 c p) : (alvV m k l).length <= 4096 /\ ∀ p ∈ alvV m k l, PB a 0 (c + (2 * a + 2)) p := by
 unfold alvV;split
 ·rename_i h0;have hN := zkA m k (B := a) l fun p hp => (h p hp).i
  refine ⟨?_, fun p hp => ?_⟩
  ·rw [List.length_map];exact zmq _ _ (Nat.le_trans (zhY m k l) hl) h0
  ·obtain ⟨q, hq, rfl⟩ := List.mem_map.1 hp;have hq2 : PB a (0 + (cgN m k l).toNat) c q := zmr _ _ _ (zp0 h) q hq;refine ⟨Nat.le_trans zms hq2.i, Nat.le_refl _, ?_⟩;show (q.made ++ q.now).length <= _;rw [List.length_append];have := hq2.n; have := hq2.d;omega
 ·exact ⟨by simp, by simp⟩
def cmL (m : Mn) : List Int -> List Par -> List Par × Int
 | [], l => (l, 0)
 | k :: r, l => if alvE m k l = 0 then cmL m r (alvV m k l) else ([], 15)
def cmI (m : Mn) (l : List Sg) (n : Int) : List Ite := itmV m l (iofD m l n) (iofM m l n)
def cmR (m : Mn) (l : List Sg) (n : Int) : List Par × Int := cmL m (perfL m) [⟨cmI m l n, [], []⟩]
def rdOf (d mi : List Int) (p : Par) : Rdg := ⟨d, mi, p.made, p.items.map (·.Dur)⟩
def cmE (m : Mn) (l : List Sg) (n : Int) : Int := (cmR m l n).2
def cmV (m : Mn) (l : List Sg) (n : Int) : List Rdg := if cmE m l n = 0 then (cmR m l n).1.map (rdOf (iofD m l n) (iofM m l n)) else []
def cmN (m : Mn) (L : List Int) (l : List Par) : Nat -> List Par
 | 0 => l
 | n + 1 => alvV m (L.getD n 0) (cmN m L l n)
structure CmJ (m : Mn) (L : List Int) (l : List Par) (n : Nat) : Prop where
 le : n <= L.length
 go : cmL m L l = cmL m (L.drop n) (cmN m L l n)
theorem zsC (m : Mn) (L : List Int) (l : List Par) : CmJ m L l 0 := ⟨Nat.zero_le _, rfl⟩
section
variable {m : Mn} {L : List Int} {l : List Par} {n : Nat} {k : Int}
theorem zp1 (hk : L[n]? = some k) : alvV m k (cmN m L l n) = cmN m L l (n + 1) := by
 show _ = alvV m (L.getD n 0) _;rw [List.getD_eq_getElem?_getD, hk]; rfl
theorem CmJ.s (h : CmJ m L l n) (hk : L[n]? = some k) (h0 : alvE m k (cmN m L l n) = 0) : CmJ m L l (n + 1) := by
 have hlt := List.getElem?_eq_some_iff.1 hk;refine ⟨hlt.1, ?_⟩;rw [h.go, List.drop_eq_getElem_cons hlt.1, hlt.2];show (if alvE m k (cmN m L l n) = 0 then _ else _) = _;rw [if_pos h0, zp1 hk]
theorem CmJ.bad (h : CmJ m L l n) (hk : L[n]? = some k) (h0 : ¬ alvE m k (cmN m L l n) = 0) : alvE m k (cmN m L l n) = 15 /\ cmL m L l = ([], 15) := by
 have hlt := List.getElem?_eq_some_iff.1 hk;refine ⟨(zor _ _ _).resolve_left h0, ?_⟩;rw [h.go, List.drop_eq_getElem_cons hlt.1, hlt.2];show (if alvE m k (cmN m L l n) = 0 then _ else _) = _;rw [if_neg h0]
theorem CmJ.fin (h : CmJ m L l n) (hn : n = L.length) : cmL m L l = (cmN m L l n, 0) := by
 rw [h.go, hn, List.drop_length]; rfl
theorem zmu {a : Nat} (hl : l.length <= 4096) (h : ∀ p ∈ l, PB a 0 0 p) : ∀ n, (cmN m L l n).length <= 4096 /\ ∀ p ∈ cmN m L l n, PB a 0 (n * (2 * a + 2)) p
 | 0 => ⟨hl, by simpa [cmN] using h⟩
 | n + 1 => by
  obtain ⟨i1, i2⟩ := zmu hl h n;have := zmt (m := m) (k := L.getD n 0) i1 i2;refine ⟨this.1, fun p hp => ?_⟩;have := this.2 p hp
  rwa [Nat.add_mul, Nat.one_mul]
end
def aqN (m : Mn) (l : List Sg) : Nat -> List Rdg
 | 0 => []
 | n + 1 => aqN m l n ++ cmV m l n
def aqX (m : Mn) (l : List Sg) : Nat -> Bool
 | 0 => true
 | n + 1 => aqX m l n && decide (cmE m l n = 0) && decide ((aqN m l (n + 1)).length <= 4096)
def aqE (m : Mn) (l : List Sg) : Int :=
 if ictE m l = 0 then (if aqX m l (ictV m l).toNat = true then (if (aqN m l (ictV m l).toNat).length = 0 then 14 else 0) else 15) else ictE m l
def aqV (m : Mn) (l : List Sg) : List Rdg := if aqE m l = 0 then aqN m l (ictV m l).toNat else []
section
variable {m : Mn} {l : List Sg} {n : Nat}
theorem zsD {N : Nat} (h : aqX m l (n + 1) = false) : n + 1 <= N -> aqX m l N = false := by
 intro hN
 induction N with
 | zero => omega
 | succ N ih =>
  rcases Nat.lt_or_ge (n + 1) (N + 1) with h1 | h1
  ·show (aqX m l N && _ && _) = false;rw [ih (by omega)]; rfl
  ·have : N = n := by omega
   subst this; exact h
theorem zuv (h : ¬ ictE m l = 0) : aqE m l = ictE m l /\ aqV m l = [] := by
 have : aqE m l = ictE m l := by unfold aqE; rw [if_neg h]
 refine ⟨this, ?_⟩; unfold aqV; rw [this, if_neg h]
theorem zsE (h : ictE m l = 0) (hn : (n : Int) < ictV m l) (h2 : ¬ cmE m l n = 0 \/ 4096 < (aqN m l (n + 1)).length) : aqE m l = 15 /\ aqV m l = [] := by
 have hx : aqX m l (n + 1) = false := by
  show (aqX m l n && decide (cmE m l n = 0) && decide ((aqN m l (n + 1)).length <= 4096)) = false;rcases h2 with h2 | h2
  ·rw [decide_eq_false h2]; simp
  ·rw [decide_eq_false (show ¬ (aqN m l (n + 1)).length <= 4096 by omega)]; simp
 have := zsD (N := (ictV m l).toNat) hx (by omega);have : aqE m l = 15 := by unfold aqE; rw [if_pos h, if_neg (by rw [this]; decide)]
 refine ⟨this, ?_⟩; unfold aqV; rw [this]; rfl
theorem zuw (h : aqX m l n = true) (h2 : cmE m l n = 0) (h3 : (aqN m l (n + 1)).length <= 4096) : aqX m l (n + 1) = true := by
 show (aqX m l n && decide (cmE m l n = 0) && decide ((aqN m l (n + 1)).length <= 4096)) = true;rw [h, decide_eq_true h2, decide_eq_true h3]; rfl
theorem zux (h : ictE m l = 0) (hn : n = (ictV m l).toNat) (hx : aqX m l n = true) (h0 : (aqN m l n).length = 0) : aqE m l = 14 /\ aqV m l = [] := by
 subst hn;have : aqE m l = 14 := by unfold aqE; rw [if_pos h, if_pos hx, if_pos h0]
 refine ⟨this, ?_⟩; unfold aqV; rw [this]; rfl
theorem zuy (h : ictE m l = 0) (hn : n = (ictV m l).toNat) (hx : aqX m l n = true) (h0 : ¬ (aqN m l n).length = 0) : aqE m l = 0 /\ aqN m l n = aqV m l := by
 subst hn;have : aqE m l = 0 := by unfold aqE; rw [if_pos h, if_pos hx, if_neg h0]
 refine ⟨this, ?_⟩; unfold aqV; rw [this]; rfl
theorem zkC : ∀ {n : Nat}, aqX m l n = true -> (aqN m l n).length <= 4096
 | 0, _ => by simp [aqN]
 | n + 1, h => by
  have h : (aqX m l n && decide (cmE m l n = 0) && decide ((aqN m l (n + 1)).length <= 4096)) = true := h;simp only [Bool.and_eq_true, decide_eq_true_eq] at h;exact h.2
theorem zos (m : Mn) (l : List Sg) : (aqV m l).length <= 4096 := by
 unfold aqV; split
 ·rename_i h;unfold aqE at h;split at h
  ·split at h
   ·rename_i hx; exact zkC hx
   ·cases h
  ·exact absurd h (by assumption)
 ·simp
end
end Go.Rse
