/-
  Plain: the sums of all readings, each once, in their order; the readings of one sum.
-/
import Derived.Test.YtbilklnipfabpaaGreatDoorPJGt0
import Derived.Test.YtbilklnipfabpaaGreatDoorPJSortF
import Derived.Test.YtbilklnipfabpaaGreatDoorPLogC
import Derived.Test.YtbilklnipfabpaaGreatDoorPJCho8
set_option linter.unusedSimpArgs false
set_option linter.unusedVariables false
namespace Go.Rse
open Go Go.Proofs
def toT (r : Rdg) : Tm := sumV r.Durs
def enL (m : Mn) (l : List Sg) : List Tm := (aqV m l).map toT
def whV (m : Mn) (l : List Sg) (x : Tm) : List Rdg := (aqV m l).filter fun r => decide (toT r = x)
theorem zfQ : ∀ {l : List Tm}, (∀ t ∈ l, ckT t = 0) -> yL l = 0
 | [], _ => rfl
 | t :: r, h => by
  unfold yL;rw [if_pos (h t (by simp))];exact zfQ fun x hx => h x (List.mem_cons_of_mem _ hx)
theorem zpv {m : Mn} : ∀ (L : List Int) (I : List Ite) (C : List Int) (J : List Ite), gLv m L I C J -> I.length <= 10 -> (∀ x ∈ I, ItG x) -> J.length <= 10 /\ ∀ x ∈ J, ItG x
 | [], I, C, J, h, h1, h2 => by rw [h.2]; exact ⟨h1, h2⟩
 | k :: r, I, C, J, h, h1, h2 => by
  obtain ⟨M, C', -, h3, h4⟩ := h;exact zpv r _ C' J h4 (Nat.le_trans zm5 h1) (zsu h3 h1 h2)
theorem zqb {m : Mn} {l : List Sg} (hM : ckM m = 0) (hck : ckD m l = 0) (hD : zeG l) (h10 : l.length <= 10) (h : aqE m l = 0) {r : Rdg} (hr : r ∈ aqV m l) : sumE r.Durs = 0 /\ GT 1220 (toT r) := by
 obtain ⟨n, hn, C, J, hg, rfl⟩ := (zql h).1 hr;have hi := (znU hM hck (zpy h).1).2 ⟨n, hn, rfl, rfl⟩;obtain ⟨h1, h2⟩ := zmv hi;obtain ⟨h3, h4⟩ := zpv _ _ _ _ hg (Nat.le_trans (zf5 _ _ _ _) h10) (zsw h1 h2 hD)
 have hd : ∀ t ∈ J.map (·.Dur), GT 122 t := fun t ht => by
  obtain ⟨x, hx, rfl⟩ := List.mem_map.1 ht;exact (h4 x hx).d
 have hl : (J.map (·.Dur)).length <= 10 := by rw [List.length_map]; exact h3
 have hf := zfQ (l := J.map (·.Dur)) fun t ht => (hd t ht).c
 obtain ⟨e1, e2⟩ := zmn (J.map (·.Dur)) ⟨0, 1⟩ 0 (by decide) (by omega) zkn hd;refine ⟨?_, ?_⟩
 ·show sumE (J.map (·.Dur)) = 0;unfold sumE; rw [if_pos hf]; exact e1
 ·show GT 1220 (sumV (J.map (·.Dur)));unfold sumV; rw [if_pos hf]; exact e2.mono (by omega)
theorem znM {m : Mn} {l : List Sg} (hM : ckM m = 0) (hck : ckD m l = 0) (hD : zeG l) (h10 : l.length <= 10) : ∀ r ∈ aqV m l, sumE r.Durs = 0 /\ ckT (toT r) = 0 := fun r hr => by
 by_cases h : aqE m l = 0
 ·obtain ⟨h1, h2⟩ := zqb hM hck hD h10 h hr;exact ⟨h1, h2.c⟩
 ·unfold aqV at hr; rw [if_neg h] at hr; simp at hr
def kyF (L : List Tm) : List (Tm × Bool) := L.foldl (fun a t => kput t true a) []
theorem zrV {L : List Tm} {i : Nat} {t : Tm} (h : L[i]? = some t) : kput t true (kyF (L.take i)) = kyF (L.take (i + 1)) := by
 unfold kyF; rw [List.take_add_one, h, Option.toList, List.foldl_append]; rfl
theorem kyG : ∀ (L : List Tm) (a : List (Tm × Bool)), (a.map (·.1)).Nodup -> ((L.foldl (fun a t => kput t true a) a).map (·.1)).Nodup /\ ∀ x, x ∈ (L.foldl (fun a t => kput t true a) a).map (·.1) ↔ x ∈ a.map (·.1) \/ x ∈ L
 | [], a, h => ⟨h, fun x => by simp⟩
 | t :: L, a, h => by
  have hk := zlB t true a
  have h1 : ((kput t true a).map (·.1)).Nodup := by
   rw [hk]; split
   ·exact h
   ·rename_i hn;refine List.nodup_append.2 ⟨h, by simp, fun x hx y hy e => ?_⟩;simp at hy; subst hy; subst e; exact hn hx
  obtain ⟨i1, i2⟩ := kyG L (kput t true a) h1;refine ⟨i1, fun x => ?_⟩;show x ∈ (L.foldl (fun a t => kput t true a) (kput t true a)).map (·.1) ↔ _;rw [i2 x, hk];split
  ·rename_i hm;constructor
   ·rintro (h | h)
    ·exact .inl h
    ·exact .inr (List.mem_cons_of_mem _ h)
   ·rintro (h | h)
    ·exact .inl h
    ·rcases List.mem_cons.1 h with rfl | h
     ·exact .inl hm
     ·exact .inr h
  ·rw [List.mem_append, List.mem_singleton, List.mem_cons, or_assoc]
theorem zhw (L : List Tm) : ((kyF L).map (·.1)).Nodup /\ ∀ x, x ∈ (kyF L).map (·.1) ↔ x ∈ L := by
 obtain ⟨h1, h2⟩ := kyG L [] (by simp);exact ⟨h1, fun x => (h2 x).trans (by simp)⟩
def srtD (L : List Tm) : List Tm := msT ((kyF L).map (·.1))
def enV (m : Mn) (l : List Sg) : List Tm := srtD (enL m l)
theorem zpw {L : List Tm} (h : ∀ t ∈ L, ckT t = 0) (hn : L.Nodup) : (msT L).Pairwise ltT := by
 have hnm : (msT L).Nodup := (List.mergeSort_perm _ _).nodup_iff.2 hn;refine List.Pairwise.imp_of_mem (fun {a b} ha hb hab => ?_) ((zrm h).and hnm);apply Classical.byContradiction;intro hl;exact hab.2 (zi0 (h a (zfA.1 ha)) (h b (zfA.1 hb)) hl hab.1)
theorem ziu {L : List Tm} (h : ∀ t ∈ L, ckT t = 0) : (∀ x, x ∈ srtD L ↔ x ∈ L) /\ (srtD L).Pairwise ltT := by
 obtain ⟨k1, k2⟩ := zhw L;exact ⟨fun x => by unfold srtD; rw [zfA, k2 x], zpw (fun t ht => h t ((k2 t).1 ht)) k1⟩
theorem znN {l L : List Tm} (h : ∀ x ∈ l, ckT x = 0) (hm : ∀ x, x ∈ L ↔ x ∈ l) (hp : L.Pairwise ltT) : srtD l = L := by
 obtain ⟨h1, h2⟩ := ziu h;have nd : ∀ {L : List Tm}, L.Pairwise ltT -> L.Nodup := fun hp => List.Pairwise.imp (fun {a b} hab e => by subst e; exact zfz _ hab) hp
 refine List.Perm.eq_of_pairwise (le := ltT) (fun a b _ _ h3 h4 => absurd h4 (zgj h3)) h2 hp ((List.perm_ext_iff_of_nodup (nd h2) (nd hp)).2 fun x => by rw [h1 x, hm x])
structure RgJ (n : Nat) (s : Array Nat) : Prop where
 nd : s.toList.Nodup
 lt : ∀ x ∈ s.toList, x < n
theorem zrW (n : Nat) : RgJ n #[] := ⟨by simp, by simp⟩
theorem RgJ.s {n i : Nat} {s : Array Nat} (h : RgJ n s) (hi : i < n) (hc : s.contains i = false) : RgJ n (s.push i) := by
 have hn : i ∉ s.toList := fun hm => by
  have : s.contains i = true := by simpa using hm
  rw [hc] at this; cases this
 refine ⟨?_, fun x hx => ?_⟩
 ·rw [Array.toList_push];refine List.nodup_append.2 ⟨h.nd, by simp, fun x hx y hy e => ?_⟩;simp at hy; subst hy; subst e; exact hn hx
 ·rw [Array.toList_push] at hx;rcases List.mem_append.1 hx with hx | hx
  ·exact h.lt x hx
  ·simp at hx; omega
theorem zlE : ∀ (n : Nat) (L : List Nat), L.Nodup -> (∀ x ∈ L, x < n) -> L.length <= n
 | 0, L, _, h => by
  cases L with
  | nil => simp
  | cons x r => exact absurd (h x (by simp)) (by omega)
 | n + 1, L, h1, h2 => by
  have h3 := zlE n (L.erase n) (h1.erase n) fun x hx => by
   have := h2 x (List.mem_of_mem_erase hx)
   have hne : x ≠ n := fun e => by
    subst e;exact (List.Nodup.not_mem_erase h1) hx
   omega
  have := List.length_erase (a := n) (l := L);split at this <;> omega
theorem RgJ.le {n : Nat} {s : Array Nat} (h : RgJ n s) : s.size <= n := by
 have := zlE n s.toList h.nd h.lt;simpa using this
def ouL (K : List (Tm × Bool)) (s : Array Nat) : List Tm := s.toList.map fun i => (K.getD i default).1
theorem zrX (K : List (Tm × Bool)) : [] = ouL K #[] := rfl
theorem zrY {K : List (Tm × Bool)} {s : Array Nat} {i : Nat} {p : Tm × Bool} (h : K[i]? = some p) : ouL K s ++ [p.1] = ouL K (s.push i) := by
 unfold ouL; rw [Array.toList_push, List.map_append, List.map_cons, List.map_nil, List.getD_eq_getElem?_getD, h]; rfl
theorem zj2 (K : List (Tm × Bool)) (s : Array Nat) : (ouL K s).length = s.size := by unfold ouL; simp
theorem zhx {K : List (Tm × Bool)} {s : Array Nat} (h : RgJ K.length s) {x : Tm} (hx : x ∈ ouL K s) : x ∈ K.map (·.1) := by
 obtain ⟨i, hi, rfl⟩ := List.mem_map.1 hx;have hl := h.lt i hi;rw [List.getD_eq_getElem?_getD, lgg hl];exact List.mem_map.2 ⟨_, List.getElem_mem hl, rfl⟩
theorem zqc {L : List Tm} {s : Array Nat} (hL : ∀ t ∈ L, ckT t = 0) (h : RgJ (kyF L).length s) (hs : ∀ i, i < (kyF L).length -> s.contains i = true) : msT (ouL (kyF L) s) = srtD L := by
 obtain ⟨k1, k2⟩ := zhw L
 have hm : ∀ x, x ∈ msT (ouL (kyF L) s) ↔ x ∈ L := fun x => by
  rw [zfA, ← k2 x];refine ⟨zhx h, fun hx => ?_⟩;obtain ⟨p, hp, rfl⟩ := List.mem_map.1 hx;obtain ⟨i, hi⟩ := List.mem_iff_getElem?.1 hp;have hil := (List.getElem?_eq_some_iff.1 hi).1;refine List.mem_map.2 ⟨i, by simpa using hs i hil, ?_⟩;rw [List.getD_eq_getElem?_getD, hi]; rfl
 have hnd : (ouL (kyF L) s).Nodup := by
  unfold ouL;rw [List.Nodup, List.pairwise_map];refine List.Pairwise.imp_of_mem (fun {a b} ha hb hab e => ?_) h.nd;have la := h.lt a ha;have lb := h.lt b hb;rw [List.getD_eq_getElem?_getD, List.getD_eq_getElem?_getD, lgg la, lgg lb] at e;simp only [Option.getD_some] at e;have h1 : ((kyF L).map (·.1))[a]'(by simpa using la) = ((kyF L).map (·.1))[b]'(by simpa using lb) := by simpa using e
  have pw := List.pairwise_iff_getElem.1 k1;rcases Nat.lt_trichotomy a b with h2 | h2 | h2
  ·exact pw a b (by simpa using la) (by simpa using lb) h2 h1
  ·exact hab h2
  ·exact pw b a (by simpa using lb) (by simpa using la) h2 h1.symm
 have hck : ∀ t ∈ ouL (kyF L) s, ckT t = 0 := fun t ht => hL t ((k2 t).1 (zhx h ht))
 exact (znN hL hm (zpw hck hnd)).symm
theorem zj3 {x : Tm} {g : Tm -> Nat} : ∀ {L : List Tm}, L.Nodup -> x ∈ L -> (L.map fun y => (if x = y then 1 else 0) + g y).sum = 1 + (L.map g).sum
 | [], _, h => by simp at h
 | y :: L, hn, h => by
  obtain ⟨h1, h2⟩ := List.nodup_cons.1 hn;simp only [List.map_cons, List.sum_cons];by_cases e : x = y
  ·subst e
   have : (L.map fun y => (if x = y then 1 else 0) + g y) = L.map g := List.map_congr_left fun z hz => by
    have hne : ¬ x = z := fun e => h1 (by rw [e]; exact hz)
    rw [if_neg hne]; omega
   rw [this, if_pos rfl]; omega
  ·rw [if_neg e, zj3 h2 ((List.mem_cons.1 h).resolve_left e)]; omega
theorem zj4 {α : Type} (f : α -> Tm) {L : List Tm} (hn : L.Nodup) : ∀ (l : List α), (∀ r ∈ l, f r ∈ L) -> (L.map fun x => (l.filter fun r => decide (f r = x)).length).sum = l.length
 | [], _ => by
  have : ∀ (L : List Tm), (L.map fun x => (([] : List α).filter fun r => decide (f r = x)).length).sum = 0 := fun L => by induction L <;> simp_all
  exact this L
 | r :: l, h => by
  have e : (fun x => ((r :: l).filter fun r => decide (f r = x)).length) = fun x => (if f r = x then 1 else 0) + (l.filter fun r => decide (f r = x)).length := funext fun x => by
   rw [List.filter_cons];by_cases hx : f r = x
   ·simp [hx]; omega
   ·simp [hx]
  rw [e, zj3 hn (h r (by simp)), zj4 f hn l fun q hq => h q (List.mem_cons_of_mem _ hq), List.length_cons]; omega
theorem zhy {m : Mn} {l : List Sg} (h : ∀ r ∈ aqV m l, ckT (toT r) = 0) : (∀ x, x ∈ enV m l ↔ x ∈ enL m l) /\ (enV m l).Nodup := by
 have hL : ∀ t ∈ enL m l, ckT t = 0 := fun t ht => by
  obtain ⟨r, hr, rfl⟩ := List.mem_map.1 ht; exact h r hr
 obtain ⟨h1, h2⟩ := ziu hL;exact ⟨h1, List.Pairwise.imp (fun {a b} hab e => by subst e; exact zfz _ hab) h2⟩
theorem zrZ {m : Mn} {l : List Sg} (h : ∀ r ∈ aqV m l, ckT (toT r) = 0) {i : Nat} {x : Tm} (hx : (enV m l)[i]? = some x) : ckT x = 0 := by
 obtain ⟨r, hr, rfl⟩ := List.mem_map.1 (((zhy h).1 x).1 (List.mem_of_getElem? hx));exact h r hr
def mnN (m : Mn) (l : List Sg) (i : Nat) : Nat := (((enV m l).take i).map fun x => (whV m l x).length).sum
theorem zr0 {m : Mn} {l : List Sg} {i : Nat} {x : Tm} (h : (enV m l)[i]? = some x) : mnN m l (i + 1) = mnN m l i + (whV m l x).length := by
 unfold mnN; rw [List.take_add_one, h]; simp
theorem zj5 {m : Mn} {l : List Sg} {i : Nat} (hk : ∀ r ∈ aqV m l, ckT (toT r) = 0) (h : (enV m l).length <= i) : mnN m l i = (aqV m l).length := by
 obtain ⟨h1, h2⟩ := zhy hk;unfold mnN;rw [List.take_of_length_le h];exact zj4 toT h2 _ fun r hr => (h1 _).2 (List.mem_map.2 ⟨r, hr, rfl⟩)
theorem zqd {m : Mn} {l : List Sg} (hk : ∀ r ∈ aqV m l, ckT (toT r) = 0) (i : Nat) : mnN m l i <= (aqV m l).length := by
 rw [← zj5 hk (i := max i (enV m l).length) (by omega)]
 have key : ∀ (L : List Nat) (a b : Nat), a <= b -> (L.take a).sum <= (L.take b).sum := by
  intro L
  induction L with
  | nil => intro a b _; simp
  | cons x r ih =>
   intro a b hab;cases a with
   | zero => simp
   | succ a =>
    cases b with
    | zero => omega
    | succ b => simp only [List.take_succ_cons, List.sum_cons]; have := ih a b (by omega); omega
 unfold mnN;rw [List.map_take, List.map_take];exact key _ _ _ (by omega)
theorem zqe {m : Mn} {l : List Sg} (hk : ∀ r ∈ aqV m l, ckT (toT r) = 0) {i : Nat} {x : Tm} (h : (enV m l)[i]? = some x) : 0 < (whV m l x).length := by
 obtain ⟨r, hr, e⟩ := List.mem_map.1 (((zhy hk).1 x).1 (List.mem_of_getElem? h));exact List.length_pos_of_mem (List.mem_filter.2 ⟨hr, decide_eq_true e⟩)
theorem zr1 {m : Mn} {l : List Sg} {x : Tm} {r : Rdg} (h : r ∈ whV m l x) : r ∈ aqV m l /\ toT r = x := by
 obtain ⟨h1, h2⟩ := List.mem_filter.1 h;exact ⟨h1, of_decide_eq_true h2⟩
section
variable {α : Type}
def fixG (p : α -> Bool) (l : List α) : Int := if l.findIdx p < l.length then (l.findIdx p : Int) else -1
theorem zlF {p : α -> Bool} {l : List α} {k : Nat} {v : α} (hv : l[k]? = some v) (hp : p v = true) (hJ : ∀ i u, i < k -> l[i]? = some u -> p u = false) : fixG p l = k := by
 have hk : k < l.length := (List.getElem?_eq_some_iff.1 hv).1;have hg : l[k] = v := (List.getElem?_eq_some_iff.1 hv).2;have : l.findIdx p = k := (List.findIdx_eq hk).2 ⟨by rw [hg]; exact hp, fun j hj => hJ j _ hj (lgg (by omega))⟩;unfold fixG; rw [this, if_pos hk]
theorem zlc {p : α -> Bool} {l : List α} (hJ : ∀ i u, i < l.length -> l[i]? = some u -> p u = false) : fixG p l = -1 := by
 have : l.findIdx p = l.length := List.findIdx_eq_length.2 fun x hx => by
  obtain ⟨i, hi⟩ := List.mem_iff_getElem?.1 hx;simpa using hJ i x (List.getElem?_eq_some_iff.1 hi).1 hi
 unfold fixG; rw [if_neg (by omega)]
def dlG (p : α -> Bool) (l : List α) : List α := l.filter fun v => !p v
theorem zfR {p : α -> Bool} {l : List α} {k : Nat} {v : α} (h : l[k]? = some v) : dlG p (l.take (k + 1)) = dlG p (l.take k) ++ (if p v = true then [] else [v]) := by
 have : l.take (k + 1) = l.take k ++ [v] := by rw [List.take_add_one, h]; rfl
 rw [dlG, this, List.filter_append];cases hp : p v <;> simp [dlG, hp]
theorem zjm (p : α -> Bool) (l : List α) : (fixG p l = -1 /\ dlG p l = l) \/ ∃ (k : Nat) (v : α), fixG p l = (k : Int) /\ l[k]? = some v /\ p v = true /\ dlG p (l.take k) = l.take k := by
 unfold fixG;split
 ·rename_i h;refine .inr ⟨l.findIdx p, l[l.findIdx p], rfl, lgg h, List.findIdx_getElem (w := h), ?_⟩;refine List.filter_eq_self.2 fun x hx => ?_
  obtain ⟨i, hi⟩ := List.mem_iff_getElem?.1 hx;rw [List.getElem?_take] at hi;split at hi
  ·rename_i hlt;have := List.not_of_lt_findIdx hlt;have hg : l[i] = x := (List.getElem?_eq_some_iff.1 hi).2;rw [hg] at this;simpa using this
  ·simp at hi
 ·rename_i h;refine .inl ⟨rfl, List.filter_eq_self.2 fun x hx => ?_⟩;have h2 : l.findIdx p = l.length := Nat.le_antisymm List.findIdx_le_length (by omega);have := (List.findIdx_eq_length.1 h2) x hx;simpa using this
end
end Go.Rse
namespace Go.Rse
open Go Go.Proofs
theorem rdz : ∀ (I : Im) (ρ : Nat -> Value) (j : Nat) c v, (rdgE ⟨[], [], [], []⟩)[j]? = some c -> (Value.agg #[.slice none 0 0, .slice none 0 0, .slice none 0 0, .slice none 0 0]).cells.toList[j]? = some v -> RV I ρ c v := by
 intro I ρ j c v hc hv;rcases j with _ | _ | _ | _ | j
 ·have hc : some (yg []) = some c := hc;have hv : some (Value.slice none 0 0) = some v := hv;cases hc; cases hv; exact LeV.nils _ I ρ _ .nils
 ·have hc : some (yg []) = some c := hc;have hv : some (Value.slice none 0 0) = some v := hv;cases hc; cases hv; exact LeV.nils _ I ρ _ .nils
 ·have hc : some (yg []) = some c := hc;have hv : some (Value.slice none 0 0) = some v := hv;cases hc; cases hv; exact LeV.nils _ I ρ _ .nils
 ·have hc : some (tmsA []) = some c := hc;have hv : some (Value.slice none 0 0) = some v := hv;cases hc; cases hv; exact LeV.nils _ I ρ _ .nils
 ·exact absurd (show (none : Option AV) = some c from hc) (by simp)
theorem rdz1 : ∀ u ∈ (Value.agg #[.slice none 0 0, .slice none 0 0, .slice none 0 0, .slice none 0 0]).cells.toList, u.oneCell' = true := by
 intro u hu; simp [Value.cells] at hu; subst hu; rfl
attribute [local irreducible] Pur yx yz Ex X Fn Imp LeV LeB FnO It yC FnW FnOW
theorem zr2 (m : Mn) (l : List Sg) (x : Tm) : dlG (fun r => !decide (toT r = x)) (aqV m l) = whV m l x := by
 unfold dlG whV;refine List.filter_congr fun r _ => ?_
 simp
attribute [local irreducible] cmV cmE iofD iofM perfL ictE ictV aqN aqX aqE aqV sumV sumE
theorem zcp (l : List Tm) (hl : l.length <= 4000000000) : Fn Tryz.prog 55 [tmsA l] (tmA (sumV l)) := by
 refine Fn.go Tryz.func55 Tryz.ntmps55 (fun g w d => ?_);apply yb;refine yH ?_;apply yj;refine ya ?_;refine yq (zdJ l hl) ?_;iterate 3 refine ya ?_
 refine yH ?_;refine Ex.mo ?_;refine ya ?_;apply yj;refine ya ?_;refine Ex.mo ?_;apply Ex.nil;refine X.ret ?_;refine RetQ.ret (.one (.cellA rfl rfl rfl rfl ty46 (LeV.eq ?_)));all_goals (first | rfl | (simp_all; done))
theorem zez (a b : Tm) : Fn Tryz.prog 57 [tmA a, tmA b] (iv (cmpV a b)) := by
 refine Fn.go Tryz.func57 Tryz.ntmps57 (fun g w d => ?_);apply yb;iterate 2 refine yF ?_
 refine ya ?_;apply yj;iterate 2 refine ya ?_
 refine yq (zcQ a b) ?_;iterate 5 refine ya ?_
 apply yj;refine yh ?_;refine X.ret ?_;refine ym ?_;all_goals (first | rfl | (simp_all; done))
theorem zeA (x : Tm) (r : Rdg) (hl : r.Durs.length <= 4000000000) : Fn Tryz.prog 61 [rdgA r, .ept (fun _ : Unit => tmE x) () 0] (.bool (!decide (toT r = x))) := by
 refine Fn.go Tryz.func61 Tryz.ntmps61 (fun g w d => ?_);apply yb;refine yF ?_;refine ye ?_;apply yd;refine zy [3,4,5,6,7,8] [0,1,3,0,15,31] mo ?_;iterate 2 refine yl ?_
 refine zz (zcp r.Durs hl) ?_;iterate 3 refine yl ?_
 refine y7 ?_;apply Ex.nil;refine X.ret ?_;refine ym ?_;all_goals (rfl)
theorem zM (l : List Rdg) (hl : l.length <= 4000000000) (fp : FuncId) (caps : List AV) (p : Rdg -> Bool) (hn : AV.nm.nmL caps = true) (hp : ∀ v, v ∈ l -> Fn Tryz.prog fp ([rdgA v] ++ caps) (.bool (p v))) : FnO Tryz.prog 106 [.own 2000000, .fn fp caps] [(2000000, .row rdgE l 35 4)] [2000000] (iv (fixG p l)) [(2000000, .row rdgE l 35 4)] := by
 refine FnO.intro (ts := [(0, .own 2000000), (1, .fn fp caps)]) (rv := [.tmp 4]) (n := 19) (cs := [.own 2000000]) (by kernel_rfl) Tryz.func106 rfl Tryz.ntmps106 rfl rfl (by simp) rfl rfl rfl rfl (fun g w d vs => ?_);apply yb;refine ye ?_;apply yd;apply yb;refine yn ?_;apply X.block
 refine zh (ι := Nat) (fun (k : Nat) => [(0, .own 2000000), (1, .fn fp caps), (7, iv l.length), (8, iv k)]) (fun (k : Nat) => [(1000001, .hold vs [.own 2000000]), (2000000, .row rdgE l 35 4)]) (fun (k : Nat) => k <= l.length /\ ∀ i u, i < k -> l[i]? = some u -> p u = false) (fun (k : Nat) => l.length - k) 0 (fun k hk => ?_) (hJ := by
  exact ⟨by omega, fun i u h => absurd h (Nat.not_lt_zero i)⟩)
 obtain ⟨hk1, hk2⟩ := hk;apply yb;refine ye ?_;apply yd;refine yk rfl ?_ ?_<;>intro hc1
 ·obtain ⟨v, hv⟩ : ∃ v, l[k]? = some v := ⟨_, lgg (by omega)⟩;have hv2 : l[(k : Int).toNat]? = some v := by simpa using hv
  apply yf;apply yd;apply X.block;apply yb;iterate 2 refine ya ?_
  apply yj;iterate 4 refine ya ?_
  refine zO (zaL rfl rfl hv2 rfl rfl ty35) rfl ?_;refine Ex.call rfl rfl (by simpa [AV.nm.nmL, AV.nm, rdgE] using hn) (hp v (List.mem_of_getElem? hv)) rfl ?_;apply Ex.nil;refine yk rfl ?_ ?_<;>intro hc2
  ·have he := zlF hv hc2 hk2;apply yb;refine yh ?_;refine X.ret ?_;rw [he];refine zkW.mk (ts := [(4, iv k)]) (.inr rfl) (yi) (.one (.tmp rfl (LeV.eq rfl)))
  apply yf;apply yc;refine yh ?_
  refine yP (k + 1) (hJ := by
   refine ⟨by omega, fun i u hi hu => ?_⟩;rcases Nat.lt_succ_iff_lt_or_eq.1 hi with h | h
   ·exact hk2 i u h hu
   ·subst h; rw [hv] at hu; injection hu with hu; subst hu; exact hc2)
 ·have he := zlc (p := p) (l := l) fun i u hi => hk2 i u (by omega)
  apply X.exit;apply yb;refine ye ?_;refine X.ret ?_;rw [he];refine zkW.mk (ts := [(4, iv (-1))]) (.inr rfl) (yi) (.one (.tmp rfl (LeV.eq rfl)))
theorem zL (l : List Rdg) (hl : l.length <= 4000000000) (fp : FuncId) (x : Tm) (p : Rdg -> Bool) (hp : ∀ v, v ∈ l -> Fn Tryz.prog fp ([rdgA v] ++ [.ept (fun _ : Unit => tmE x) () 0]) (.bool (p v))) : FnO Tryz.prog 60 [.own 2000000, .fn fp [.ept (fun _ : Unit => tmE x) () 0]] [(2000000, .row rdgE l 35 4)] [] (.own 2000000) [(2000000, .row rdgE (dlG p l) 35 4)] := by
 have hcs := zjm p l;refine FnO.intro (ts := [(0, .own 2000000), (1, .fn fp [.ept (fun _ : Unit => tmE x) () 0])]) (rv := [.tmp 4]) (n := 42) (cs := []) (by kernel_rfl) Tryz.func60 rfl Tryz.ntmps60 rfl rfl (by simp) rfl rfl rfl rfl (fun g w d vs => ?_);apply yb;refine ya ?_;apply yj;iterate 2 refine ya ?_
 refine zah [(2000000, 2000000)] (zM l hl fp [.ept (fun _ : Unit => tmE x) () 0] p rfl hp) rfl rfl rfl (LeL.refl _) rfl rfl ⟨⟨_, _, rfl, rfl, LeB.refl _, rfl⟩, trivial⟩ rfl rfl rfl rfl ?_;refine ye ?_;apply yd;apply yb;refine yh ?_;refine yk rfl ?_ ?_<;>intro hc1
 ·apply yb;refine yh ?_;refine X.ret ?_;have he := (hcs.resolve_right (fun ⟨k, _, h, _⟩ => by omega)).2;have hrow1 : l = dlG p l := he.symm;refine zkW.mk (ts := [(4, .own 2000000)]) (.inr rfl) (yi) (.one (.tmp rfl (LeV.eq rfl)))
 have hZ1 := hcs.resolve_left (fun h => by omega);obtain ⟨k0, v0, hk0, hv0, hp0, hd0⟩ := hZ1;have hlt0 : k0 < l.length := (List.getElem?_eq_some_iff.1 hv0).1;have hd1 : dlG p (l.take (k0 + 1)) = l.take k0 := by rw [zfR hv0, if_pos hp0, hd0, List.append_nil]
 have hl1 : (dlG p (l.take (k0 + 1))).length = k0 := by rw [hd1, List.length_take]; omega
 have hrow0 : l = dlG p (l.take (k0 + 1)) ++ l.drop (dlG p (l.take (k0 + 1))).length := by rw [hl1, hd1, List.take_append_drop]
 apply yf;apply yd;apply yb;refine yn ?_;apply X.block
 refine zh (ι := Nat) (fun (k : Nat) => [(0, .own 2000000), (1, .fn fp [.ept (fun _ : Unit => tmE x) () 0]), (5, iv ((dlG p (l.take k)).length : Int)), (6, iv (k : Int))]) (fun (k : Nat) => [(1000001, .hold vs []), (2000000, .row rdgE (dlG p (l.take k) ++ l.drop (dlG p (l.take k)).length) 35 4)]) (fun (k : Nat) => k <= l.length /\ (dlG p (l.take k)).length < k) (fun (k : Nat) => l.length - k) (k0 + 1) (fun k hk => ?_) (hJ := by
  exact ⟨by omega, by omega⟩) (h0 := by
  refine Imp.of ⟨⟨_, rfl, LeV.refl _⟩, ⟨_, rfl, LeV.refl _⟩, ⟨_, rfl, LeV.eq (congrArg (AV.int .i64) (by omega))⟩, ⟨_, rfl, LeV.eq (congrArg (AV.int .i64) (by omega))⟩, trivial⟩ ⟨⟨_, rfl, LeB.refl _⟩, ⟨_, rfl, LeB.row hrow0⟩, trivial⟩)
 obtain ⟨hk1, hk2⟩ := hk;have hrl : (dlG p (l.take k) ++ l.drop (dlG p (l.take k)).length).length = l.length := by simp; omega
 apply yd;apply yb;refine zT ?_;refine yk rfl ?_ ?_<;>intro hc2
 ·obtain ⟨v, hv⟩ : ∃ v, l[k]? = some v := ⟨_, lgg (by omega)⟩
  have hv2 : (dlG p (l.take k) ++ l.drop (dlG p (l.take k)).length)[(k : Int).toNat]? = some v := by
   rw [Int.toNat_natCast, List.getElem?_append_right (by omega), List.getElem?_drop, show (dlG p (l.take k)).length + (k - (dlG p (l.take k)).length) = k by omega]; exact hv
  apply yf;apply yd;apply X.block;apply yb;iterate 3 refine ya ?_
  refine zO (zaL rfl rfl hv2 rfl rfl ty35) rfl ?_;refine yH ?_;refine Ex.mo ?_;apply yj;iterate 2 refine ya ?_
  refine yq (hp v (List.mem_of_getElem? hv)) ?_;refine ye ?_;refine yk rfl ?_ ?_<;>intro hc3
  ·have hdk : dlG p (l.take (k + 1)) = dlG p (l.take k) ++ [v] := by rw [zfR hv, if_neg (by simp [hc3])]
   have hdl : (dlG p (l.take (k + 1))).length = (dlG p (l.take k)).length + 1 := by rw [hdk]; simp
   have hrow2 : (dlG p (l.take k) ++ l.drop (dlG p (l.take k)).length).set (((dlG p (l.take k)).length : Nat) : Int).toNat v = dlG p (l.take (k + 1)) ++ l.drop (dlG p (l.take (k + 1))).length := by
    rw [hdl, hdk, Int.toNat_natCast, List.set_append_right _ _ (Nat.le_refl _), Nat.sub_self];have h9 : (l.drop (dlG p (l.take k)).length).set 0 v = v :: l.drop ((dlG p (l.take k)).length + 1) := by rw [List.drop_eq_getElem_cons (show (dlG p (l.take k)).length < l.length by omega)]; rfl
    rw [h9]; simp
   apply yb;(iterate 4 refine ya ?_);refine Ex.mo ?_;apply Ex.nil;apply yc;refine yn ?_;apply yc;refine yn ?_
   refine yP (k + 1) (hJ := by
    refine ⟨by omega, ?_⟩;rw [hdl];omega)
  ·have hdk : dlG p (l.take (k + 1)) = dlG p (l.take k) := by rw [zfR hv, if_pos (by simpa using hc3), List.append_nil]
   have hdl : (dlG p (l.take (k + 1))).length = (dlG p (l.take k)).length := by rw [hdk]
   have hrow2 : dlG p (l.take k) ++ l.drop (dlG p (l.take k)).length = dlG p (l.take (k + 1)) ++ l.drop (dlG p (l.take (k + 1))).length := by rw [hdk]
   apply yf;apply yc;refine yn ?_
   refine yP (k + 1) (hJ := by
    refine ⟨by omega, ?_⟩;rw [hdl];omega)
 ·have hkl : k = l.length := by omega
  subst hkl;have him : (((dlG p (l.take l.length)).length : Nat) : Int).toNat + ((dlG p (l.take l.length) ++ l.drop (dlG p (l.take l.length)).length).length - (((dlG p (l.take l.length)).length : Nat) : Int).toNat) = (dlG p (l.take l.length) ++ l.drop (dlG p (l.take l.length)).length).length := by rw [Int.toNat_natCast]; omega
  apply X.exit;apply yb;iterate 2 refine ya ?_
  refine zO (zbe rfl rfl rfl sl28 ty35 (by omega) (by omega)) rfl ?_;refine zac (znF (⟨[], [], [], []⟩ : Rdg) rfl rfl (fun _ => rfl) (by decide) sl28 ti35 rdz rdz1 him) ?_;apply yj;iterate 2 refine ya ?_
  refine zac (znu rfl rfl rfl sl28 ty35 (by omega) (by simp; omega) rfl) ?_;refine ye ?_;refine X.ret ?_
  have hfin : List.take (((dlG p (l.take l.length)).length : Nat) : Int).toNat (List.take (((dlG p (l.take l.length)).length : Nat) : Int).toNat (dlG p (l.take l.length) ++ l.drop (dlG p (l.take l.length)).length) ++ List.replicate ((dlG p (l.take l.length) ++ l.drop (dlG p (l.take l.length)).length).length - (((dlG p (l.take l.length)).length : Nat) : Int).toNat) (⟨[], [], [], []⟩ : Rdg)) = dlG p l := by
   rw [Int.toNat_natCast, List.take_append_of_le_length (by simp), List.take_take, Nat.min_self, List.take_append_of_le_length (Nat.le_refl _), List.take_of_length_le (Nat.le_refl _), List.take_of_length_le (Nat.le_refl _)]
  refine zkW.mk (ts := [(4, .own 2000000)]) (.inr rfl) (yi) (.one (.tmp rfl (LeV.eq rfl)))
set_option maxHeartbeats 4000000 in
theorem zff (m : Mn) (l : List Sg) (hl : l.length <= 1000) (hE : aqE m l = 0) : FnO Tryz.prog 9 [mnA m, sgsA l] [] [] (.tup [.own 30, iv 0]) [(30, .row rdgE (aqV m l) 35 4)] := by
 have hz0 : [] = aqN m l 0 := by unfold aqN; rfl
 refine FnO.introX (ts := [(0, mnA m), (1, sgsA l)]) (rv := [.tmp 4, .tmp 5]) (n := 46) (cs := []) (by kernel_rfl) Tryz.func9 rfl Tryz.ntmps9 rfl rfl (by simp) rfl rfl rfl rfl (fun g w d vs => ?_);apply yb;refine yF ?_;iterate 2 refine ya ?_
 apply yj;iterate 2 refine ya ?_
 refine yq (zbV m l hl) ?_;refine ze ?_;apply yd;apply yb;refine yh ?_;refine yk rfl ?_ ?_<;>intro hc1
 ·exact absurd hE (by rw [(zsZ hc1).1]; exact hc1)
 have h0 : ictE m l = 0 := by omega
 have hZ1 := zlJ h0;obtain ⟨hM, hck⟩ := hZ1;have hrg := zkc hM h0;apply yf;apply yb;refine ye ?_;iterate 2 apply yd
 refine X.imp (y5 rdgE 35 4 8 30 rfl rfl) ?_;apply yc;refine yh ?_;apply X.block
 refine zh (ι := Nat) (fun (k : Nat) => [(1, sgsA l), (2, .ptr 2 0 0 0), (8, .own 30), (21, iv (ictV m l)), (22, iv (k : Int))]) (fun (k : Nat) => [(1000001, .hold vs []), (2, .box (mnE m) 24), (30, .row rdgE (aqN m l k) 35 4)]) (fun (k : Nat) => k <= (ictV m l).toNat /\ aqX m l k = true) (fun (k : Nat) => (ictV m l).toNat - k) 0 (fun k hk => ?_) (hJ := by
  exact ⟨Nat.zero_le _, by unfold aqX; rfl⟩) (h0 := by
  exact yw)
 obtain ⟨hk1, hX⟩ := hk;apply yb;refine ye ?_;apply yd;refine yk rfl ?_ ?_<;>intro hc2
 ·have hkn : (k : Int) < ictV m l := by omega
  have hie := zhC h0 hkn;have hit := zjo hM hck hie;have hsn := zpx m l k;have hln := zh8 hX;have hcl := zlH m hl (k : Int);apply yf;apply yd;apply X.block;apply yb;iterate 2 refine ya ?_
  apply yj;iterate 3 refine ya ?_
  refine yq (zcq m l (k : Int) hl hM hie hit) ?_;refine ze ?_;apply yd;apply yb;refine yh ?_;refine yk rfl ?_ ?_<;>intro hc3
  ·exact absurd ((zoR h0 hkn (.inl hc3)).1.symm.trans hE) (by decide)
  have hc0 : cmE m l (k : Int) = 0 := by omega
  apply yf;apply yb;iterate 2 refine ya ?_
  refine Ex.mo ?_;refine ya ?_;apply yj;refine yn ?_;refine yk rfl ?_ ?_<;>intro hc4
  ·exact absurd ((zoR h0 hkn (.inr (by rw [← hsn]; omega))).1.symm.trans hE) (by decide)
  have hl4 : (aqN m l (k + 1)).length <= 4096 := by rw [← hsn]; omega
  apply yf;apply yc;refine yh ?_
  refine yP (k + 1) (hJ := by
   exact ⟨by omega, zs0 hX hc0 hl4⟩) (hI := yw)
 ·obtain rfl : k = (ictV m l).toNat := by omega
  apply X.exit;apply yd;apply yb;refine yn ?_;refine yk rfl ?_ ?_<;>intro hc5
  ·exact absurd ((zs1 h0 rfl hX (by omega)).1.symm.trans hE) (by decide)
  have hZ2 := zs2 h0 rfl hX (by omega);obtain ⟨hE2, hV⟩ := hZ2;apply yf;apply yb;refine yn ?_;refine X.ret ?_;refine zgJ (st' := ⟨[(4, .own 30), (5, iv 0)], [(1000001, .hold vs []), (30, .row rdgE (aqV m l) 35 4)]⟩) (by first | exact yi | exact yw) ?_;refine zk9.mk [(4, .own 30), (5, iv 0)] [] (.inr rfl) (.many (by decide) (.cons (.tmp rfl (LeV.eq ?_)) (.cons (.tmp rfl (LeV.eq ?_)) .nil)));all_goals (rfl)
set_option maxHeartbeats 4000000 in
theorem zfS (m : Mn) (l : List Sg) (x : Tm) (hl : l.length <= 1000) (hck : ckD m l = 0) (hx : ckT x = 0) (hE : aqE m l = 0) (hB : ∀ r ∈ aqV m l, r.Durs.length <= 1000000) : Fn Tryz.prog 21 [mnA m, sgsA l, tmA x] (.tup [zI (whV m l x), iv 0]) := by
 have hW : dlG (fun r => !decide (toT r = x)) (aqV m l) = whV m l x := zr2 m l x;refine Fn.go Tryz.func21 Tryz.ntmps21 (fun g w d => ?_);apply yb;iterate 2 refine yF ?_
 refine yh ?_;apply yd;apply yb;iterate 2 refine ya ?_
 refine yq (za2 m l hl) ?_;refine ya ?_;apply yj;refine yh ?_;refine yk rfl ?_ ?_<;>intro hc1
 ·exact absurd hck hc1
 apply yf;apply yd;apply yb;refine ya ?_;refine yq (zch x) ?_;refine ya ?_;apply yj;refine yh ?_;refine yk rfl ?_ ?_<;>intro hc2
 ·exact absurd hx hc2
 apply yf;apply yb;iterate 2 refine ya ?_
 refine z6 [(30, 26)] (zff m l hl hE) ?_;refine ze ?_;apply yd;apply yb;refine yh ?_;refine yk rfl ?_ ?_<;>intro hc3
 ·simp at hc3
 apply yf;apply yb;refine ya ?_;refine Ex.imp (yU (k := 5) rfl rfl) ?_;refine zO (zdM rfl) rfl ?_;refine z6 [(2000000, 26), (2000002, 34)] (zdQ 2000002 (zL (aqV m l) (by have := zfx m l; omega) 61 x (fun r => !decide (toT r = x)) (fun r hr => zeA x r (by have := hB r hr; omega))) rfl) ?_;refine yh ?_;refine X.ret ?_;refine RetQ.imp (Imp.freeze (k := 34) rfl) ?_;refine yu ?_ ?_;all_goals (first | rfl | exact congrArg (fun z => zI z) hW)
end Go.Rse
