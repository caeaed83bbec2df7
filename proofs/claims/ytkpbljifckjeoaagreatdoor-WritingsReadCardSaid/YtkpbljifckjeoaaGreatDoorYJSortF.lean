/-
  The library's sort o.
-/
import Derived.Test.YtkpbljifckjeoaaGreatDoorYLogB
import Derived.Shelf.SlSortCmp.NoneTotal
import Derived.Shelf.SlSortCmp.WholeK
import Derived.Ground.SlsfProg
import Derived.Test.YtkpbljifckjeoaaGreatDoorProg
set_option linter.unusedSimpArgs false
set_option linter.unusedVariables false
namespace Go.Rse
open Go Go.Proofs Go.Shelf Go.Sort
def znT : AV -> Bool
 | .int _ _ => true
 | .bool _ => true
 | .str _ => true
 | .nils => true
 | .nilf => true
 | .sl _ _ => true
 | _ => false
theorem RV.one {I : Im} {ρ : Nat -> Value} {c : AV} {v : Value} (h : RV I ρ c v) (ho : znT c = true) : v.oneCell' = true := by
 cases h <;> first | rfl | (simp [znT] at ho)
theorem zpL {W W' : World} (h : Grow W W') : ∃ q os, W' = grow (W.drewN q) os := by
 refine ⟨W'.drawn - W.drawn, W'.heap.extract W.heap.size W'.heap.size, ?_⟩;obtain ⟨h1, h2, h3, h4, h5, h6⟩ := h;obtain ⟨hp, tp, dr, os, ou⟩ := W;obtain ⟨hp', tp', dr', os', ou'⟩ := W';simp only at h1 h2 h3 h4 h5 h6;subst h1; subst h2; subst h3;have e1 : dr + (dr' - dr) = dr' := by omega
 have e2 : hp ++ hp'.extract hp.size hp'.size = hp' := by
  apply Array.ext
  ·simp; omega
  ·intro i hi hi';rw [Array.getElem_append];split
   ·rename_i hlt;have := h6 i hlt;rw [Array.getElem?_eq_getElem hi', Array.getElem?_eq_getElem hlt] at this;exact (Option.some.inj this).symm
   ·rename_i hge;rw [Array.getElem_extract];congr 1;omega
 simp only [grow, World.drewN, e1, e2]
structure El {α : Type} (I : Im) (enc : α -> List AV) (ok : α -> Prop) (s : Nat) where
 x : α
 vs : List Value
 hx : ok x
 he : (enc x).length = s
 hl : vs.length = s
 ho : ∀ v ∈ vs, v.oneCell' = true
 hr : ∀ (j : Nat) (c : AV) (v : Value), (enc x)[j]? = some c -> vs[j]? = some v -> RV I noNames c v
theorem zmU {w : World} {b n : Nat} {os : Array Obj} {cur : Array Value} {e : TypeId} {fr : Nat × Nat} (F : Array Value) (hb : w.heap[b]? = some (.cells cur e fr)) :
 (grow (putRow id (Sort.ahead w n) b 0 F) os).heap[b]? = some (.cells (putCells id 0 F cur) e fr) := by
 have hg : b < w.heap.size := (Array.getElem?_eq_some_iff.1 hb).1;rw [heap_grow_old _ _ (by simpa using hg)];simp [putRow, mapBlock, Sort.ahead, Array.getElem?_modify, hb, onCells]
theorem zi8 {w : World} {b n : Nat} {os : Array Obj} (F : Array Value) : w.grownBy (grow (putRow id (Sort.ahead w n) b 0 F) os) (some b) := by
 refine ⟨rfl, rfl, rfl, by simp, fun k hk hne => ?_⟩;rw [heap_grow_old _ _ (by simpa using hk)];have : b ≠ k := fun e => hne (by rw [e])
 simp [putRow, mapBlock, Sort.ahead, Array.getElem?_modify, this]
theorem zg2 (cur F : Array Value) (h : F.size <= cur.size) : (putCells id 0 F cur).toList.take F.size = F.toList := by
 apply List.ext_getElem?;intro j;by_cases hj : j < F.size
 ·rw [List.getElem?_take_of_lt hj, Array.getElem?_toList];simp [putCells, hj, show j < cur.size by omega]
 ·rw [List.getElem?_take_eq_none (by omega), List.getElem?_eq_none (by simp; omega)]
theorem znU {α : Type} {enc : α -> List AV} {s : Nat} {d : Nat} {ρ ρ' : Nat -> Value} {I : Im} {O : Owns} {w w' : World} {E : TypeId} {l l' : List α} {b : Nat} {xs' : List Value} (hsat : Sat (C0 0 d ⟨ρ, I, O⟩ w) [(2000000, .row enc l E s)] ⟨ρ, I, O⟩ w) (hρ : ∀ n, n ≠ 2000000 -> ρ' n = ρ n) (hb : yT (ρ 2000000) = some b) (hb' : yT (ρ' 2000000) = some b)
 (hm : w.grownBy w' (some b)) (hdw : w.drawn <= w'.drawn) (hw : w'.ownsRow 0 E s (ρ' 2000000) l'.length xs') (he : ∀ (i : Nat) x, l'[i]? = some x -> (enc x).length = s)
 (hv : ∀ (i : Nat) x (j : Nat) c v, l'[i]? = some x -> (enc x)[j]? = some c -> xs'[i * s + j]? = some v -> RV I noNames c v) :
 Sat (C0 0 d ⟨ρ, I, O⟩ w) [(2000000, .row enc l' E s)] ⟨ρ', I, O⟩ w' /\ Ext (C0 0 d ⟨ρ, I, O⟩ w) ⟨ρ', I, O⟩ w' := by
 have hrel : Rel (C0 0 d ⟨ρ, I, O⟩ w) ⟨[], [(2000000, .row enc l E s)]⟩ ⟨ρ, I, O⟩ { tmps := #[], defers := [] } w := ⟨rfl, Dfs.nil _ _ _, fun t x h => by simp [lk] at h, hsat, ⟨Im.le_refl _, rfl, rfl, rfl, Nat.le_refl _, Nat.le_refl _, fun _ _ _ _ => ⟨rfl, rfl⟩, fun b y n _ hy => ⟨n, hy⟩⟩⟩;obtain ⟨xs, hw0, h1, h2, h3⟩ := hsat.blk 2000000 _ rfl;have h4 := h3 b hb
 have hr := hrel.modifyR (g' := ⟨ρ', I, O⟩) (k := 2000000) (bo := some b) (B := .row enc l' E s) (d := none) (x := .any) (v := .nilIface) rfl hρ (fun _ _ => rfl) (fun b' e => by injection e with e; subst e; exact h4) hm hdw (hsat.ob.up (Im.le_refl _) hm.size) rfl (.any _)
  ⟨xs', hw, he, hv, fun b' hb2 => by
   have : b' = b := by rw [hb'] at hb2; simpa using hb2.symm
   subst this; exact h4⟩
 refine ⟨⟨hr.sat.im, hr.sat.ob, fun k B hB => hr.sat.blk k B ?_⟩, hr.ext⟩;simp only [yj] at hB ⊢;cases hk : Nat.beq 2000000 k <;> simp [hk] at hB ⊢
 ·simp [lk] at hB
 ·exact hB
theorem zg3 {α : Type} {I : Im} {enc : α -> List AV} {ok : α -> Prop} {s : Nat} [Inhabited (El I enc ok s)] {d : Array (El I enc ok s)} {i j : Nat} {e : El I enc ok s} (hi : d[i]? = some e) (hj : j < s) : (flatK El.vs s d)[i * s + j]? = e.vs[j]? := by
 have hlt := (Array.getElem?_eq_some_iff.1 hi).1
 have hc : i * s + j < d.size * s := by
  have := Nat.mul_le_mul_right s (show i + 1 <= d.size from hlt); rw [Nat.add_mul, Nat.one_mul] at this; omega
 have e1 : (i * s + j) / s = i := (blk_iff s i _ (by omega)).1 ⟨by omega, by omega⟩;have e2 : (i * s + j) % s = j := by rw [Nat.mod_eq_sub_div_mul, e1]; omega
 have h := get_flatK El.vs s d (i * s + j) hc;rw [e1, e2] at h;have h2 : d[i]! = e := by rw [getElem!_pos d i hlt]; exact (Array.getElem?_eq_some_iff.1 hi).2
 rw [h2] at h;have hjl : j < e.vs.length := by rw [e.hl]; exact hj
 rw [getElem!_pos (flatK El.vs s d) (i * s + j) (by simpa using hc), getElem!_pos e.vs j hjl] at h;rw [Array.getElem?_eq_getElem (by simpa using hc), List.getElem?_eq_getElem hjl, h]
abbrev leOf {α : Type} (cf : α -> α -> Int) : α -> α -> Bool := fun x y => !ltOf cf y x
theorem zkO {α β : Type} [Inhabited β] (f : β -> α) (ok : α -> Prop) (cf : α -> α -> Int) (hT : ∀ x y, ok x -> ok y -> ltOf cf x y = false -> ltOf cf y x = false -> x = y)
 (htr : ∀ x y z, ok x -> ok y -> ok z -> leOf cf x y = true -> leOf cf y z = true -> leOf cf x z = true) (htt : ∀ x y, ok x -> ok y -> (leOf cf x y || leOf cf y x) = true) (hf : ∀ e, ok (f e))
 {d d' : Array β} (hp : PermIn 0 d.size d d') (hs : SortedIn (ltOf fun x y => cf (f x) (f y)) 0 d.size d') : d'.toList.map f = (d.toList.map f).mergeSort (leOf cf) := by
 obtain ⟨hsz, _, hperm⟩ := hp;have e1 : d'.extract 0 d.size = d' := by rw [← hsz]; exact Array.extract_size
 rw [e1, Array.extract_size] at hperm;have hok : ∀ a ∈ d.toList.map f, ok a := fun a ha => by obtain ⟨e, _, rfl⟩ := List.mem_map.1 ha; exact hf e
 let l0 : List {a // ok a} := d.toList.map fun e => ⟨f e, hf e⟩
 have hl0 : l0.map Subtype.val = d.toList.map f := by simp [l0]
 let r0 : {a // ok a} -> {a // ok a} -> Bool := fun x y => leOf cf x.1 y.1
 have hm : (l0.mergeSort r0).map Subtype.val = (d.toList.map f).mergeSort (leOf cf) := by
  rw [← hl0]; exact List.map_mergeSort (fun a _ b _ => rfl)
 rw [← hm];let l1 : List {a // ok a} := d'.toList.map fun e => ⟨f e, hf e⟩
 have hl1 : l1.map Subtype.val = d'.toList.map f := by simp [l1]
 rw [← hl1];congr 1;refine List.Perm.eq_of_pairwise (le := fun x y => r0 x y = true) ?_ ?_ ?_ ((hperm.map _).trans (List.mergeSort_perm _ _).symm)
 ·intro a b _ _ h1 h2;simp only [r0, leOf, Bool.not_eq_true'] at h1 h2;exact Subtype.ext (hT a.1 b.1 a.2 b.2 h2 h1)
 ·rw [List.pairwise_iff_getElem];intro i j hi hj hij;have hi' : i < d'.size := by simpa [l1] using hi
  have hj' : j < d'.size := by simpa [l1] using hj
  have h := hs i j (Nat.zero_le _) hij (by omega);rw [getElem!_pos d' i hi', getElem!_pos d' j hj'] at h;simp only [l1, List.getElem_map, Array.getElem_toList, r0, leOf, Bool.not_eq_true'];exact h
 ·exact List.pairwise_mergeSort (fun a b c => htr a.1 b.1 c.1 a.2 b.2 c.2) (fun a b => htt a.1 b.1 a.2 b.2) _
theorem zj0 {I : Im} {ρ : Nat -> Value} {k f : Nat} {args : List Value} (h : RVL I ρ [.own k, .fn f []] args) : args = [ρ k, .func (.func f) #[] #[]] := by
 obtain ⟨hl, hv⟩ := h
 match args, hl with
 | [u, v], _ =>
  rw [zU (hv 0 _ u rfl rfl)];have h1 := hv 1 _ v rfl rfl;cases h1 with
  | fn f caps vs hl2 hv2 =>
   have : vs = [] := List.eq_nil_of_length_eq_zero hl2;subst this;rfl
theorem zpM {P : Program} {τ : Ren} (L : SlLaysF0.n6 P τ) (hcall : zZ P (τ.f 6) = true) {α : Type} (enc : α -> List AV) (s : Nat) (hs0 : 0 < s) (E : TypeId) (l : List α) (hlen : l.length <= 4000000000) (ok : α -> Prop) (cf : α -> α -> Int) (g : FuncId)
 (aE : ∀ w, (isAgg (τ.t 24)).run P w = .ok true w) (zE : ∀ w, (Go.sizeOf (τ.t 24)).run P w = .ok s w) (he : ∀ x, (enc x).length = s) (h1 : ∀ x c, c ∈ enc x -> znT c = true)
 (hcf : ∀ x y, ok x -> ok y -> Fn P g [.agg (enc x), .agg (enc y)] (.int .i64 (cf x y))) (hok : ∀ x ∈ l, ok x) (hO : ∀ x, ok x -> cf x x = 0) (hlt : ∀ x y z, ok x -> ok y -> ok z -> cf x y < 0 -> cf y z < 0 -> cf x z < 0) (hnl : ∀ x y z, ok x -> ok y -> ok z -> 0 <= cf x y -> 0 <= cf y z -> 0 <= cf x z)
 (hT : ∀ x y, ok x -> ok y -> 0 <= cf x y -> 0 <= cf y x -> x = y) (htt : ∀ x y, ok x -> ok y -> 0 <= cf x y \/ 0 <= cf y x) :
 FnO P (τ.f 6) [.own 2000000, .fn g []] [(2000000, .row enc l E s)] [2000000] (.tup []) [(2000000, .row enc (l.mergeSort (leOf cf)) E s)] := by
 refine ⟨hcall, fun d ρ I O w args hsat hargs => ?_⟩;rw [zj0 hargs];obtain ⟨xs, hw, q1, q2, q3⟩ := hsat.blk 2000000 _ rfl
 have hnone : l = [] -> ∀ p c, ρ 2000000 = .slice p 0 c -> Calls P (τ.f 6) [ρ 2000000, .func (.func g) #[] #[]].toArray w fun e w' => ∃ v ρ' I' O', e = .returned v /\ Sat (C0 0 d ⟨ρ, I, O⟩ w) [(2000000, .row enc (l.mergeSort (leOf cf)) E s)] ⟨ρ', I', O'⟩ w' /\ RV I' ρ' (.tup []) v /\ Ext (C0 0 d ⟨ρ, I, O⟩ w) ⟨ρ', I', O'⟩ w' /\ ∀ n ∈ [2000000], ρ' n = ρ n := by
  intro hl p c hv;subst hl;have e0 : ([] : List α).mergeSort (leOf cf) = [] := by simp
  rw [hv, e0];refine Calls.mono (AnyF.slices_SortFunc_none L p c _ w) ?_
  rintro e w' ⟨rfl, rfl⟩
  exact ⟨_, ρ, I, O, rfl, hsat, .tup [] [] rfl (fun j c v h => by simp at h), ⟨Im.le_refl _, rfl, rfl, rfl, Nat.le_refl _, Nat.le_refl _, fun _ _ _ _ => ⟨rfl, rfl⟩, fun b y n _ hy => ⟨n, hy⟩⟩, fun _ _ => rfl⟩
 rcases hw.2 with ⟨hv, h0⟩ | ⟨b, cap, cur, hv, hb0, hh, hnc, hcm, hcur, htk⟩
 ·exact hnone (List.eq_nil_of_length_eq_zero h0) _ _ hv
 ·have hv : ρ 2000000 = .slice (some ⟨b, 0, none⟩) l.length cap := hv;by_cases hl : l = []
  ·exact hnone hl _ _ (by rw [hv, hl]; rfl)
  -- the elements
  have hxl : xs.length = l.length * s := hw.1
  have hsz : ∀ i, i < l.length -> i * s + s <= l.length * s := fun i hi => by
   have := Nat.mul_le_mul_right s (show i + 1 <= l.length from hi); rw [Nat.add_mul, Nat.one_mul] at this; exact this
  have hel : ∀ (i : Nat) (hi : i < l.length), ∃ e : El I enc ok s, e.x = l[i] /\ e.vs = (xs.drop (i * s)).take s := by
   intro i hi;have hi' : l[i]? = some l[i] := List.getElem?_eq_getElem hi
   have hlen : ((xs.drop (i * s)).take s).length = s := by
    have := hsz i hi;rw [List.length_take, List.length_drop]; omega
   have hget : ∀ j, j < s -> ((xs.drop (i * s)).take s)[j]? = xs[i * s + j]? := fun j hj => by
    rw [List.getElem?_take_of_lt hj, List.getElem?_drop]
   have hrv : ∀ (j : Nat) (c : AV) (v : Value), (enc l[i])[j]? = some c -> ((xs.drop (i * s)).take s)[j]? = some v -> RV I noNames c v := fun j c v hc hvv => by
    have hj : j < s := by rw [← he l[i]]; exact (List.getElem?_eq_some_iff.1 hc).1
    rw [hget j hj] at hvv;exact q2 i _ j c v hi' hc hvv
   refine ⟨⟨l[i], (xs.drop (i * s)).take s, hok _ (List.getElem_mem hi), he _, hlen, fun v hv => ?_, hrv⟩, rfl, rfl⟩;obtain ⟨j, hj, e⟩ := List.mem_iff_getElem.1 hv;have hj' : j < (enc l[i]).length := by rw [he]; omega
   exact RV.one (hrv j _ v (List.getElem?_eq_getElem hj') (by rw [List.getElem?_eq_getElem hj, e])) (h1 _ _ (List.getElem_mem hj'))
  let dl : List (El I enc ok s) := List.ofFn fun i : Fin l.length => (hel i.1 i.2).choose
  have hdx : ∀ (i : Nat) (hi : i < l.length), ∃ e, dl[i]? = some e /\ e.x = l[i] /\ e.vs = (xs.drop (i * s)).take s := fun i hi => by
   refine ⟨_, by simp [dl, hi], (hel i hi).choose_spec⟩
  have hdn : dl.length = l.length := by simp [dl]
  have hdm : dl.map El.x = l := by
   apply List.ext_getElem (by simp [hdn]);intro i hi hi';obtain ⟨e, h2, h3, _⟩ := hdx i hi';rw [List.getElem_map];have : dl[i]'(by simpa using hi) = e := (List.getElem?_eq_some_iff.1 h2).2;rw [this, h3]
  have hpos : 0 < l.length := Nat.pos_of_ne_zero (fun h => hl (List.eq_nil_of_length_eq_zero h))
  haveI : Inhabited (El I enc ok s) := ⟨(hel 0 hpos).choose⟩
  have hda : ∀ (i : Nat) (hi : i < l.length), ∃ e, dl.toArray[i]? = some e /\ e.x = l[i] /\ e.vs = (xs.drop (i * s)).take s := fun i hi => by
   obtain ⟨e, h2, h3⟩ := hdx i hi;exact ⟨e, by simpa using h2, h3⟩
  have hds : dl.toArray.size = l.length := by simpa using hdn
  have hIm : ImO I O w := ⟨hsat.im, hsat.ob⟩;have hblt : b < w.heap.size := yW hh;have hO' : O b = some (d, 2000000) := (q3 b (by show yT (ρ 2000000) = some b; rw [hv]; rfl)).1
  have hH : HoldsK El.vs s w b 0 dl.toArray := by
   intro t ht;have ht' : t < l.length * s := by simpa [hds] using ht
   have hq : t / s < l.length := (Nat.div_lt_iff_lt_mul hs0).2 ht';obtain ⟨e, h2, h3, h4⟩ := hda (t / s) hq;have hm : t % s < s := Nat.mod_lt _ hs0;have et : t / s * s + t % s = t := by rw [Nat.mul_comm]; exact Nat.div_add_mod t s
   have hg := zg3 h2 hm;rw [et] at hg;have hx : e.vs[t % s]? = xs[t]? := by rw [h4, List.getElem?_take_of_lt hm, List.getElem?_drop, et]
   have hxt : xs[t]? = cur[t]? := by
    rw [← htk, List.getElem?_take_of_lt (by simpa using ht'), Array.getElem?_toList]
   have htc : t < cur.size := by
    rw [hcur]; exact Nat.lt_of_lt_of_le ht' (Nat.mul_le_mul_right s hnc)
   refine ⟨?_, by simp [World.frozen?, hh]⟩
   have hfl : (flatK El.vs s dl.toArray)[t]! = cur[t] := by
    rw [hx, hxt, Array.getElem?_eq_getElem htc] at hg;have h5 := (Array.getElem?_eq_some_iff.1 hg);rw [getElem!_pos _ t h5.1]; exact h5.2
   rw [hfl];simp [World.cell?, hh, htc]
  have hcmp : CmpLays P g #[] El.vs s (fun x y : El I enc ok s => cf x.x y.x) b 0 dl.toArray.size w := by
   intro m os dk hdk x y
   have hgr : ∀ a : Addr, a.block < w.heap.size -> a.block ≠ b -> (sortWorldK El.vs s w b 0 m dk os).cell? a = w.cell? a := fun a ha hne => by
    unfold sortWorldK;rw [cell?_grow _ _ _ (by simpa [putRowK, putRow, mapBlock, Sort.ahead] using ha), cell?_putRowK_other _ _ _ _ _ _ _ hne];rfl
   have hio : ImOB ⟨ρ, I, O⟩ (sortWorldK El.vs s w b 0 m dk os) := by
    refine ⟨fun b' o u hI => ?_, fun b' k hk => ?_, hIm.2.2⟩
    ·obtain ⟨p1, p2⟩ := hIm.1 b' o u hI;refine ⟨?_, p2⟩
     rw [hgr ⟨b', o, none⟩ (zbm p1) (fun e => by
      have e : b' = b := e;rw [e, hO'] at p2; simp at p2)]
     exact p1
    ·have := hIm.2.1 b' k hk;simp only [sortWorldK, putRowK, putRow, mapBlock, Sort.ahead, size_grow, Array.size_modify];omega
   have hc := (hcf x.x y.x x.hx y.hx).2.2 ⟨ρ, I, O⟩ (sortWorldK El.vs s w b 0 m dk os) [.agg x.vs.toArray, .agg y.vs.toArray] hio ⟨rfl, fun j c v hj hv2 => by
    match j with
    | 0 => simp at hj hv2; subst hj; subst hv2; exact .agg _ _ (by rw [x.hl, x.he]) x.hr
    | 1 => simp at hj hv2; subst hj; subst hv2; exact .agg _ _ (by rw [y.hl, y.he]) y.hr
    | j + 2 => simp at hj⟩
   rw [Array.append_empty];refine Calls.mono hc ?_
   rintro e w' ⟨v, g', rfl, hrv, hadd, _⟩
   have hvi : v = .int .i64 (cf x.x y.x) := by cases hrv; rfl
   subst hvi;exact ⟨rfl, zpL hadd.grow⟩
  have hlt' : ∀ x y, ltOf (fun x y : El I enc ok s => cf x.x y.x) x y = decide (cf x.x y.x < 0) := fun _ _ => rfl
  have hswo : SWO (ltOf fun x y : El I enc ok s => cf x.x y.x) := by
   refine ⟨fun x => ?_, fun x y z => ?_, fun x y z => ?_⟩
   ·rw [hlt', hO _ x.hx]; rfl
   ·simp only [hlt', decide_eq_true_eq]; exact hlt _ _ _ x.hx y.hx z.hx
   ·simp only [hlt', decide_eq_false_iff_not, Int.not_lt]; exact hnl _ _ _ x.hx y.hx z.hx
  have eg : ∀ args w, (callFunc g args).run P w = .ok (.enter g args) w := by
   have hx : ok l[0] := hok _ (List.getElem_mem hpos);exact fun args w => zH (hcf _ _ hx hx).1 args w
  have hS := AnyQ.slices_SortFunc L s aE zE El.vs (fun e => e.hl) (fun e => e.ho) (fun x y : El I enc ok s => cf x.x y.x) hswo g #[] b 0 cap dl.toArray w eg hcmp hH hblt (by rw [hds]; omega);rw [hv];refine Calls.mono (by rw [← hds]; exact hS) ?_
  rintro e w' ⟨rfl, d', n, os, hp, hso, rfl⟩
  have hmap := zkO El.x ok cf (fun x y hx hy h2 h3 => hT x y hx hy (by simpa [ltOf] using h2) (by simpa [ltOf] using h3))
   (fun x y z hx hy hz h2 h3 => by
    simp only [leOf, ltOf, Bool.not_eq_true', decide_eq_false_iff_not, Int.not_lt] at h2 h3 ⊢;exact hnl _ _ _ hz hy hx h3 h2)
   (fun x y hx hy => by
    simp only [leOf, ltOf, Bool.or_eq_true, Bool.not_eq_true', decide_eq_false_iff_not, Int.not_lt];exact (htt x y hx hy).symm) (fun e => e.hx) hp hso
  rw [List.toList_toArray, hdm] at hmap;have hd'n : d'.size = l.length := hp.1.trans hds;have hFs : (flatK El.vs s d').size = l.length * s := by simp [hd'n]
  have hcurF : (flatK El.vs s d').size <= cur.size := by rw [hFs, hcur]; exact Nat.mul_le_mul_right s hnc
  have hrow : (sortWorldK El.vs s w b 0 n d' os).ownsRow 0 E s (ρ 2000000) (l.mergeSort (leOf cf)).length (flatK El.vs s d').toList := by
   rw [List.length_mergeSort];refine ⟨by simpa using hFs, .inr ⟨b, cap, putCells id 0 (flatK El.vs s d') cur, hv, hb0, zmU _ hh, hnc, hcm, by simp [putCells, hcur], ?_⟩⟩;rw [← hFs]; exact zg2 cur _ hcurF
  obtain ⟨s1, s2⟩ := znU (ρ' := ρ) (l' := l.mergeSort (leOf cf)) hsat (fun _ _ => rfl) (by rw [hv]; rfl) (by rw [hv]; rfl) (zi8 (n := n) (os := os) (flatK El.vs s d')) (by show w.drawn <= w.drawn + n; omega) hrow (fun _ x _ => he x) (fun i x j c v hi hc hvv => by
   rw [← hmap, List.getElem?_map] at hi;cases hde : d'.toList[i]? with
   | none => rw [hde] at hi; simp at hi
   | some e =>
    rw [hde] at hi;have hxe : e.x = x := by simpa using hi
    have hj : j < s := by rw [← he x]; exact (List.getElem?_eq_some_iff.1 hc).1
    have hg := zg3 (d := d') (i := i) (j := j) (e := e) (by rw [← Array.getElem?_toList]; exact hde) hj;rw [Array.getElem?_toList, hg] at hvv;exact e.hr j c v (by rw [hxe]; exact hc) hvv)
  exact ⟨_, ρ, I, O, rfl, s1, .tup [] [] rfl (fun j c v h => by simp at h), s2, fun _ _ => rfl⟩
end Go.Rse
namespace Go.Proofs
open Go.Shelf
def zfa : Go.Shelf.Ren := ⟨fun | 6 => 81 | 15 => 113 | 14 => 112 | 28 => 160 | 29 => 161 | 20 => 152 | 21 => 153 | 22 => 154 | 23 => 155 | 24 => 156 | 25 => 157 | 26 => 158 | 27 => 159 | 46 => 193 | 47 => 194 | 48 => 195 | 49 => 196 | 50 => 197 | 57 => 215 | n => n, fun | 22 => 134 | 24 => 133 | 25 => 136 | 3 => 3 | 39 => 176 | 0 => 0 | 53 => 217 | 55 => 219 | 4 => 4 | 46 => 210 | 45 => 209 | 50 => 214 | 5 => 5 | 9 => 9 | 66 => 250 | 70 => 254 | 76 => 270 | 77 => 181 | n => n, fun | n => n⟩
theorem zhY : Go.Proofs.SlLaysF0.n6 Tryz.prog zfa := {
 mixed := by kernel_rfl
 f6 := ⟨Tryz.f81.name, by decide, Tryz.func81.trans (congrArg some (by kernel_rfl))⟩
 f14 := ⟨Tryz.f112.name, by decide, Tryz.func112.trans (congrArg some (by kernel_rfl))⟩
 f15 := Tryz.func113.trans (congrArg some (by kernel_rfl))
 f20 := ⟨Tryz.f152.name, by decide, Tryz.func152.trans (congrArg some (by kernel_rfl))⟩
 f21 := ⟨Tryz.f153.name, by decide, Tryz.func153.trans (congrArg some (by kernel_rfl))⟩
 f22 := ⟨Tryz.f154.name, by decide, Tryz.func154.trans (congrArg some (by kernel_rfl))⟩
 f23 := ⟨Tryz.f155.name, by decide, Tryz.func155.trans (congrArg some (by kernel_rfl))⟩
 f24 := ⟨Tryz.f156.name, by decide, Tryz.func156.trans (congrArg some (by kernel_rfl))⟩
 f25 := ⟨Tryz.f157.name, by decide, Tryz.func157.trans (congrArg some (by kernel_rfl))⟩
 f26 := ⟨Tryz.f158.name, by decide, Tryz.func158.trans (congrArg some (by kernel_rfl))⟩
 f27 := ⟨Tryz.f159.name, by decide, Tryz.func159.trans (congrArg some (by kernel_rfl))⟩
 f28 := Tryz.func160.trans (congrArg some (by kernel_rfl))
 f29 := Tryz.func161.trans (congrArg some (by kernel_rfl))
 f46 := ⟨Tryz.f193.name, by decide, Tryz.func193.trans (congrArg some (by kernel_rfl))⟩
 f47 := Tryz.func194.trans (congrArg some (by kernel_rfl))
 f48 := Tryz.func195.trans (congrArg some (by kernel_rfl))
 f49 := ⟨Tryz.f196.name, by decide, Tryz.func196.trans (congrArg some (by kernel_rfl))⟩
 f50 := ⟨Tryz.f197.name, by decide, Tryz.func197.trans (congrArg some (by kernel_rfl))⟩
 f57 := ⟨Tryz.f215.name, by decide, Tryz.func215.trans (congrArg some (by kernel_rfl))⟩
 t0 := Tryz.underlying0
 a0 := Tryz.isAgg0
 z0 := Tryz.sizeOf0
 v0 := Tryz.zeroValue0
 t3 := Tryz.underlying3
 a3 := Tryz.isAgg3
 z3 := Tryz.sizeOf3
 v3 := Tryz.zeroValue3
 t4 := Tryz.underlying4
 a4 := Tryz.isAgg4
 z4 := Tryz.sizeOf4
 v4 := Tryz.zeroValue4
 t5 := Tryz.underlying5
 a5 := Tryz.isAgg5
 z5 := Tryz.sizeOf5
 v5 := Tryz.zeroValue5
 t9 := Tryz.underlying9
 a9 := Tryz.isAgg9
 z9 := Tryz.sizeOf9
 v9 := Tryz.zeroValue9
 t22 := Tryz.underlying134
 a22 := Tryz.isAgg134
 z22 := Tryz.sizeOf134
 v22 := Tryz.zeroValue134
 t25 := Tryz.underlying136
 a25 := Tryz.isAgg136
 z25 := Tryz.sizeOf136
 v25 := Tryz.zeroValue136
 t39 := Tryz.underlying176
 a39 := Tryz.isAgg176
 z39 := Tryz.sizeOf176
 v39 := Tryz.zeroValue176
 t45 := Tryz.underlying209
 a45 := Tryz.isAgg209
 z45 := Tryz.sizeOf209
 v45 := Tryz.zeroValue209
 t46 := Tryz.underlying210
 a46 := Tryz.isAgg210
 z46 := Tryz.sizeOf210
 v46 := Tryz.zeroValue210
 t50 := Tryz.underlying214
 a50 := Tryz.isAgg214
 z50 := Tryz.sizeOf214
 v50 := Tryz.zeroValue214
 t53 := Tryz.underlying217
 a53 := Tryz.isAgg217
 z53 := Tryz.sizeOf217
 v53 := Tryz.zeroValue217
 t55 := Tryz.underlying219
 a55 := Tryz.isAgg219
 z55 := Tryz.sizeOf219
 v55 := Tryz.zeroValue219
 t66 := Tryz.underlying250
 a66 := Tryz.isAgg250
 z66 := Tryz.sizeOf250
 v66 := Tryz.zeroValue250
 t70 := Tryz.underlying254
 a70 := Tryz.isAgg254
 z70 := Tryz.sizeOf254
 v70 := Tryz.zeroValue254
 t76 := Tryz.underlying270
 a76 := Tryz.isAgg270
 z76 := Tryz.sizeOf270
 v76 := Tryz.zeroValue270
 t77 := Tryz.underlying181
 a77 := Tryz.isAgg181
 z77 := Tryz.sizeOf181
 v77 := Tryz.zeroValue181 }
end Go.Proofs
