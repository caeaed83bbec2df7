/-
  The library's sort o.
-/
import Derived.Test.YtbopkhoalndflaaGreatDoorVLogB
import Derived.Shelf.SlSortCmp.NoneTotal
import Derived.Shelf.SlSortCmp.WholeK
import Derived.Ground.SlsfProg
import Derived.Test.YtbopkhoalndflaaGreatDoorProg
set_option linter.all false
namespace Go.Rse
open Go Go.Proofs Go.Shelf Go.Sort Go.Proofs.Tryz
def znA : AV -> Bool
 | .int _ _ => true
 | .bool _ => true
 | .str _ => true
 | .nils => true
 | .nilf => true
 | .sl _ _ => true
 | _ => false
def RV.one {I : Im} {ρ : Nat -> Value} {c : AV} {v : Value} (h : RV I ρ c v) (ho : znA c = true) : v.oneCell' = true := by
 cases h <;> first | rfl | (simp [znA] at ho)
def zsb {W W' : World} (h : Grow W W') : ∃ q os, W' = grow (W.drewN q) os := by
 refine ⟨W'.drawn - W.drawn, W'.heap.extract W.heap.size W'.heap.size, ?_⟩;obtain ⟨T, Q, N, H, G, J⟩ := h;obtain ⟨I, tp, dr, os, ou⟩ := W;obtain ⟨Z, tp', dr', os', ou'⟩ := W';simp only at T Q N H G J;subst T; subst Q; subst N;have e1 : dr + (dr' - dr) = dr' := by omega
 have e2 : I ++ Z.extract I.size Z.size = Z := by
  apply Array.ext
  ·simp; omega
  ·intro i hi U;rw [Array.getElem_append];split
   ·rename_i V;have := J i V;rw [jW U, jW V] at this;exact (Option.some.inj this).symm
   ·rename_i E;rw [Array.getElem_extract];congr 1;omega
 simp only [grow, World.drewN, e1, e2]
structure El {α : Type} (I : Im) (enc : α -> List AV) (ok : α -> Prop) (s : Nat) where
 x : α
 vs : List Value
 hx : ok x
 he : (enc x).length = s
 hl : vs.length = s
 ho : ∀ v ∈ vs, v.oneCell' = true
 hr : ∀ (j : Nat) (c : AV) (v : Value), (enc x)[j]? = some c -> vs[j]? = some v -> RV I noNames c v
def zoK {w : World} {b n : Nat} {os : Array Obj} {cur : Array Value} {e : TypeId} {fr : Nat × Nat} (F : Array Value) (Z : w.heap[b]? = some (.cells cur e fr)) :
 (grow (putRow id (Sort.ahead w n) b 0 F) os).heap[b]? = some (.cells (putCells id 0 F cur) e fr) := by
 have V : b < w.heap.size := (wC.1 Z).1;rw [heap_grow_old _ _ (by simpa using V)];simp [putRow, mapBlock, Sort.ahead, Array.getElem?_modify, Z, onCells]
def zkK {w : World} {b n : Nat} {os : Array Obj} (F : Array Value) : w.grownBy (grow (putRow id (Sort.ahead w n) b 0 F) os) (some b) := by
 refine ⟨rfl, rfl, rfl, by simp, fun k V Z => ?_⟩;rw [heap_grow_old _ _ (by simpa using V)];have : b ≠ k := fun e => Z (by rw [e])
 simp [putRow, mapBlock, Sort.ahead, Array.getElem?_modify, this]
def zit (cur F : Array Value) (h : F.size <= cur.size) : (putCells id 0 F cur).toList.take F.size = F.toList := by
 apply uK;intro j;by_cases Z : j < F.size
 ·rw [wW Z, uS];simp [putCells, Z, show j < cur.size by omega]
 ·rw [List.getElem?_take_eq_none (by omega), wL (by simp; omega)]
def zqc {α : Type} {enc : α -> List AV} {s : Nat} {d : Nat} {ρ ρ' : Nat -> Value} {I : Im} {O : Owns} {w w' : World} {E : TypeId} {l l' : List α} {b : Nat} {xs' : List Value} (Z : Sat (C0 0 d ⟨ρ, I, O⟩ w) [(2000000, .row enc l E s)] ⟨ρ, I, O⟩ w) (hρ : ∀ n, n ≠ 2000000 -> ρ' n = ρ n) (H : y7 (ρ 2000000) = some b) (Q : y7 (ρ' 2000000) = some b)
 (hm : w.grownBy w' (some b)) (N : w.drawn <= w'.drawn) (G : w'.ownsRow 0 E s (ρ' 2000000) l'.length xs') (he : ∀ (i : Nat) x, l'[i]? = some x -> (enc x).length = s)
 (hv : ∀ (i : Nat) x (j : Nat) c v, l'[i]? = some x -> (enc x)[j]? = some c -> xs'[i * s + j]? = some v -> RV I noNames c v) :
 Sat (C0 0 d ⟨ρ, I, O⟩ w) [(2000000, .row enc l' E s)] ⟨ρ', I, O⟩ w' /\ Ext (C0 0 d ⟨ρ, I, O⟩ w) ⟨ρ', I, O⟩ w' := by
 have V : Rel (C0 0 d ⟨ρ, I, O⟩ w) ⟨[], [(2000000, .row enc l E s)]⟩ ⟨ρ, I, O⟩ { tmps := #[], defers := [] } w := ⟨rfl, Dfs.nil _ _ _, fun t x h => by simp [lk] at h, Z, ⟨Im.le_refl _, rfl, rfl, rfl, jC _, jC _, fun _ _ _ _ => ⟨rfl, rfl⟩, fun b y n _ hy => ⟨n, hy⟩⟩⟩;obtain ⟨xs, xT, h1, h2, h3⟩ := Z.blk 2000000 _ rfl;have J := h3 b H
 have hr := V.modifyR (g' := ⟨ρ', I, O⟩) (k := 2000000) (bo := some b) (B := .row enc l' E s) (d := none) (x := .any) (v := .nilIface) rfl hρ (fun _ _ => rfl) (fun b' e => by injection e with e; subst e; exact J) hm N (Z.ob.up (Im.le_refl _) hm.size) rfl (.any _)
  ⟨xs', G, he, hv, fun b' U => by
   have : b' = b := by rw [Q] at U; simpa using U.symm
   subst this; exact J⟩
 refine ⟨⟨hr.sat.im, hr.sat.ob, fun k B T => hr.sat.blk k B ?_⟩, hr.ext⟩;simp only [yn] at T ⊢;cases hk : Nat.beq 2000000 k <;> simp [hk] at T ⊢
 ·simp [lk] at T
 ·exact T
def ziu {α : Type} {I : Im} {enc : α -> List AV} {ok : α -> Prop} {s : Nat} [Inhabited (El I enc ok s)] {d : Array (El I enc ok s)} {i j : Nat} {e : El I enc ok s} (hi : d[i]? = some e) (T : j < s) : (flatK El.vs s d)[i * s + j]? = e.vs[j]? := by
 have Z := (wC.1 hi).1
 have U : i * s + j < d.size * s := by
  have := jS s (show i + 1 <= d.size from Z); rw [Nat.add_mul, Nat.one_mul] at this; omega
 have e1 : (i * s + j) / s = i := (blk_iff s i _ (by omega)).1 ⟨by omega, by omega⟩;have e2 : (i * s + j) % s = j := by rw [Nat.mod_eq_sub_div_mul, e1]; omega
 have h := get_flatK El.vs s d (i * s + j) U;rw [e1, e2] at h;have Q : d[i]! = e := by rw [getElem!_pos d i Z]; exact (wC.1 hi).2
 rw [Q] at h;have V : j < e.vs.length := by rw [e.hl]; exact T
 rw [getElem!_pos (flatK El.vs s d) (i * s + j) (by simpa using U), getElem!_pos e.vs j V] at h;rw [jW (by simpa using U), j8 V, h]
abbrev leOf {α : Type} (cf : α -> α -> Int) : α -> α -> Bool := fun x y => !ltOf cf y x
def zmB {α β : Type} [Inhabited β] (f : β -> α) (ok : α -> Prop) (cf : α -> α -> Int) (hT : ∀ x y, ok x -> ok y -> ltOf cf x y = false -> ltOf cf y x = false -> x = y)
 (V : ∀ x y z, ok x -> ok y -> ok z -> leOf cf x y = true -> leOf cf y z = true -> leOf cf x z = true) (U : ∀ x y, ok x -> ok y -> (leOf cf x y || leOf cf y x) = true) (hf : ∀ e, ok (f e))
 {d d' : Array β} (hp : PermIn 0 d.size d d') (hs : SortedIn (ltOf fun x y => cf (f x) (f y)) 0 d.size d') : d'.toList.map f = (d.toList.map f).mergeSort (leOf cf) := by
 obtain ⟨T, _, Z⟩ := hp;have e1 : d'.extract 0 d.size = d' := by rw [← T]; exact Array.extract_size
 rw [e1, Array.extract_size] at Z;have hok : ∀ a ∈ d.toList.map f, ok a := fun a ha => by obtain ⟨e, _, rfl⟩ := jV.1 ha; exact hf e
 let l0 : List {a // ok a} := d.toList.map fun e => ⟨f e, hf e⟩
 have Q : l0.map Subtype.val = d.toList.map f := by simp [l0]
 let r0 : {a // ok a} -> {a // ok a} -> Bool := fun x y => leOf cf x.1 y.1
 have hm : (l0.mergeSort r0).map Subtype.val = (d.toList.map f).mergeSort (leOf cf) := by
  rw [← Q]; exact List.map_mergeSort (fun a _ b _ => rfl)
 rw [← hm];let l1 : List {a // ok a} := d'.toList.map fun e => ⟨f e, hf e⟩
 have N : l1.map Subtype.val = d'.toList.map f := by simp [l1]
 rw [← N];congr 1;refine List.Perm.eq_of_pairwise (le := fun x y => r0 x y = true) ?_ ?_ ?_ ((Z.map _).trans (List.mergeSort_perm _ _).symm)
 ·intro a b _ _ G E;simp only [r0, leOf, wD] at G E;exact Subtype.ext (hT a.1 b.1 a.2 b.2 E G)
 ·rw [uT];intro i j hi hj J;have I : i < d'.size := by simpa [l1] using hi
  have H : j < d'.size := by simpa [l1] using hj
  have h := hs i j (wF _) J (by omega);rw [getElem!_pos d' i I, getElem!_pos d' j H] at h;simp only [l1, List.getElem_map, Array.getElem_toList, r0, leOf, wD];exact h
 ·exact List.pairwise_mergeSort (fun a b c => V a.1 b.1 c.1 a.2 b.2 c.2) (fun a b => U a.1 b.1 a.2 b.2) _
def zlP {I : Im} {ρ : Nat -> Value} {k f : Nat} {args : List Value} (h : RVL I ρ [.own k, .fn f []] args) : args = [ρ k, .func (.func f) #[] #[]] := by
 obtain ⟨hl, hv⟩ := h
 match args, hl with
 | [u, v], _ =>
  rw [zW (hv 0 _ u rfl rfl)];have V := hv 1 _ v rfl rfl;cases V with
  | fn f caps vs Z U =>
   have : vs = [] := jN Z;subst this;rfl
def zsc {P : Program} {τ : Ren} (L : SlLaysF0.n6 P τ) (x0 : zag P (τ.f 6) = true) {α : Type} (enc : α -> List AV) (s : Nat) (u2 : 0 < s) (E : TypeId) (l : List α) (x3 : l.length <= 4000000000) (ok : α -> Prop) (cf : α -> α -> Int) (g : FuncId)
 (aE : ∀ w, (isAgg (τ.t 24)).run P w = .ok true w) (zE : ∀ w, (Go.sizeOf (τ.t 24)).run P w = .ok s w) (he : ∀ x, (enc x).length = s) (h1 : ∀ x c, c ∈ enc x -> znA c = true)
 (u1 : ∀ x y, ok x -> ok y -> Fn P g [.agg (enc x), .agg (enc y)] (.int .i64 (cf x y))) (hok : ∀ x ∈ l, ok x) (hO : ∀ x, ok x -> cf x x = 0) (hZ : ∀ x y z, ok x -> ok y -> ok z -> cf x y < 0 -> cf y z < 0 -> cf x z < 0) (kZ : ∀ x y z, ok x -> ok y -> ok z -> 0 <= cf x y -> 0 <= cf y z -> 0 <= cf x z)
 (hT : ∀ x y, ok x -> ok y -> 0 <= cf x y -> 0 <= cf y x -> x = y) (hY : ∀ x y, ok x -> ok y -> 0 <= cf x y \/ 0 <= cf y x) :
 FnO P (τ.f 6) [.own 2000000, .fn g []] [(2000000, .row enc l E s)] [2000000] (.tup []) [(2000000, .row enc (l.mergeSort (leOf cf)) E s)] := by
 refine ⟨x0, fun d ρ I O w args Z w2 => ?_⟩;rw [zlP w2];obtain ⟨xs, hw, q1, q2, q3⟩ := Z.blk 2000000 _ rfl
 have U : l = [] -> ∀ p c, ρ 2000000 = .slice p 0 c -> Calls P (τ.f 6) [ρ 2000000, .func (.func g) #[] #[]].toArray w fun e w' => ∃ v ρ' I' O', e = .returned v /\ Sat (C0 0 d ⟨ρ, I, O⟩ w) [(2000000, .row enc (l.mergeSort (leOf cf)) E s)] ⟨ρ', I', O'⟩ w' /\ RV I' ρ' (.tup []) v /\ Ext (C0 0 d ⟨ρ, I, O⟩ w) ⟨ρ', I', O'⟩ w' /\ ∀ n ∈ [2000000], ρ' n = ρ n := by
  intro hl p c hv;subst hl;have e0 : ([] : List α).mergeSort (leOf cf) = [] := by simp
  rw [hv, e0];refine Calls.mono (AnyF.slices_SortFunc_none L p c _ w) ?_
  rintro e w' ⟨rfl, rfl⟩
  exact ⟨_, ρ, I, O, rfl, Z, .tup [] [] rfl (fun j c v h => by simp at h), ⟨Im.le_refl _, rfl, rfl, rfl, jC _, jC _, fun _ _ _ _ => ⟨rfl, rfl⟩, fun b y n _ hy => ⟨n, hy⟩⟩, fun _ _ => rfl⟩
 rcases hw.2 with ⟨hv, h0⟩ | ⟨b, cap, cur, hv, hX, hh, v9, hW, T, hU⟩
 ·exact U (jN h0) _ _ hv
 ·have hv : ρ 2000000 = .slice (some ⟨b, 0, none⟩) l.length cap := hv;by_cases hl : l = []
  ·exact U hl _ _ (by rw [hv, hl]; rfl)
  -- the elements
  have hxl : xs.length = l.length * s := hw.1
  have hQ : ∀ i, i < l.length -> i * s + s <= l.length * s := fun i hi => by
   have := jS s (show i + 1 <= l.length from hi); rw [Nat.add_mul, Nat.one_mul] at this; exact this
  have v8 : ∀ (i : Nat) (hi : i < l.length), ∃ e : El I enc ok s, e.x = l[i] /\ e.vs = (xs.drop (i * s)).take s := by
   intro i hi;have v5 : l[i]? = some l[i] := j8 hi
   have x3 : ((xs.drop (i * s)).take s).length = s := by
    have := hQ i hi;rw [jM, uP]; omega
   have kY : ∀ j, j < s -> ((xs.drop (i * s)).take s)[j]? = xs[i * s + j]? := fun j V => by
    rw [wW V, wH]
   have H : ∀ (j : Nat) (c : AV) (v : Value), (enc l[i])[j]? = some c -> ((xs.drop (i * s)).take s)[j]? = some v -> RV I noNames c v := fun j c v hc Q => by
    have V : j < s := by rw [← he l[i]]; exact (j1.1 hc).1
    rw [kY j V] at Q;exact q2 i _ j c v v5 hc Q
   refine ⟨⟨l[i], (xs.drop (i * s)).take s, hok _ (uO hi), he _, x3, fun v hv => ?_, H⟩, rfl, rfl⟩;obtain ⟨j, V, e⟩ := List.mem_iff_getElem.1 hv;have kX : j < (enc l[i]).length := by rw [he]; omega
   exact RV.one (H j _ v (j8 kX) (by rw [j8 V, e])) (h1 _ _ (uO kX))
  let dl : List (El I enc ok s) := List.ofFn fun i : Fin l.length => (v8 i.1 i.2).choose
  have kW : ∀ (i : Nat) (hi : i < l.length), ∃ e, dl[i]? = some e /\ e.x = l[i] /\ e.vs = (xs.drop (i * s)).take s := fun i hi => by
   refine ⟨_, by simp [dl, hi], (v8 i hi).choose_spec⟩
  have kV : dl.length = l.length := by simp [dl]
  have hP : dl.map El.x = l := by
   apply List.ext_getElem (by simp [kV]);intro i hi v5;obtain ⟨e, J, G, _⟩ := kW i v5;rw [List.getElem_map];have : dl[i]'(by simpa using hi) = e := (j1.1 J).2;rw [this, G]
  have x2 : 0 < l.length := Nat.pos_of_ne_zero (fun h => hl (jN h))
  haveI : Inhabited (El I enc ok s) := ⟨(v8 0 x2).choose⟩
  have hK : ∀ (i : Nat) (hi : i < l.length), ∃ e, dl.toArray[i]? = some e /\ e.x = l[i] /\ e.vs = (xs.drop (i * s)).take s := fun i hi => by
   obtain ⟨e, J, G⟩ := kW i hi;exact ⟨e, by simpa using J, G⟩
  have xT : dl.toArray.size = l.length := by simpa using kV
  have v4 : ImO I O w := ⟨Z.im, Z.ob⟩;have kU : b < w.heap.size := za hh;have hG : O b = some (d, 2000000) := (q3 b (by show y7 (ρ 2000000) = some b; rw [hv]; rfl)).1
  have hH : HoldsK El.vs s w b 0 dl.toArray := by
   intro t ht;have v3 : t < l.length * s := by simpa [xT] using ht
   have hq : t / s < l.length := (Nat.div_lt_iff_lt_mul u2).2 v3;obtain ⟨e, J, G, h4⟩ := hK (t / s) hq;have hm : t % s < s := vV _ u2;have et : t / s * s + t % s = t := by rw [wT]; exact uU t s
   have hg := ziu J hm;rw [et] at hg;have hx : e.vs[t % s]? = xs[t]? := by rw [h4, wW hm, wH, et]
   have hC : xs[t]? = cur[t]? := by
    rw [← hU, wW (by simpa using v3), uS]
   have kT : t < cur.size := by
    rw [T]; exact jR v3 (jS s v9)
   refine ⟨?_, by simp [World.frozen?, hh]⟩
   have h9 : (flatK El.vs s dl.toArray)[t]! = cur[t] := by
    rw [hx, hC, jW kT] at hg;have h5 := (wC.1 hg);rw [getElem!_pos _ t h5.1]; exact h5.2
   rw [h9];simp [World.cell?, hh, kT]
  have k5 : CmpLays P g #[] El.vs s (fun x y : El I enc ok s => cf x.x y.x) b 0 dl.toArray.size w := by
   intro m os dk hdk x y
   have h8 : ∀ a : Addr, a.block < w.heap.size -> a.block ≠ b -> (sortWorldK El.vs s w b 0 m dk os).cell? a = w.cell? a := fun a ha hne => by
    unfold sortWorldK;rw [cell?_grow _ _ _ (by simpa [putRowK, putRow, mapBlock, Sort.ahead] using ha), cell?_putRowK_other _ _ _ _ _ _ _ hne];rfl
   have hio : ImOB ⟨ρ, I, O⟩ (sortWorldK El.vs s w b 0 m dk os) := by
    refine ⟨fun b' o u hI => ?_, fun b' k hk => ?_, v4.2.2⟩
    ·obtain ⟨p1, p2⟩ := v4.1 b' o u hI;refine ⟨?_, p2⟩
     rw [h8 ⟨b', o, none⟩ (zb3 p1) (fun e => by
      have e : b' = b := e;rw [e, hG] at p2; simp at p2)]
     exact p1
    ·have := v4.2.1 b' k hk;simp only [sortWorldK, putRowK, putRow, mapBlock, Sort.ahead, size_grow, Array.size_modify];omega
   have hc := (u1 x.x y.x x.hx y.hx).2.2 ⟨ρ, I, O⟩ (sortWorldK El.vs s w b 0 m dk os) [.agg x.vs.toArray, .agg y.vs.toArray] hio ⟨rfl, fun j c v V x4 => by
    match j with
    | 0 => simp at V x4; subst V; subst x4; exact .agg _ _ (by rw [x.hl, x.he]) x.hr
    | 1 => simp at V x4; subst V; subst x4; exact .agg _ _ (by rw [y.hl, y.he]) y.hr
    | j + 2 => simp at V⟩
   rw [Array.append_empty];refine Calls.mono hc ?_
   rintro e w' ⟨v, g', rfl, H, k4, _⟩
   have hvi : v = .int .i64 (cf x.x y.x) := by cases H; rfl
   subst hvi;exact ⟨rfl, zsb k4.grow⟩
  have N : ∀ x y, ltOf (fun x y : El I enc ok s => cf x.x y.x) x y = decide (cf x.x y.x < 0) := fun _ _ => rfl
  have k3 : SWO (ltOf fun x y : El I enc ok s => cf x.x y.x) := by
   refine ⟨fun x => ?_, fun x y z => ?_, fun x y z => ?_⟩
   ·rw [N, hO _ x.hx]; rfl
   ·simp only [N, wA]; exact hZ _ _ _ x.hx y.hx z.hx
   ·simp only [N, jT, Int.not_lt]; exact kZ _ _ _ x.hx y.hx z.hx
  have eg : ∀ args w, (callFunc g args).run P w = .ok (.enter g args) w := by
   have hx : ok l[0] := hok _ (uO x2);exact fun args w => zN (u1 _ _ hx hx).1 args w
  have hS := AnyQ.slices_SortFunc L s aE zE El.vs (fun e => e.hl) (fun e => e.ho) (fun x y : El I enc ok s => cf x.x y.x) k3 g #[] b 0 cap dl.toArray w eg k5 hH kU (by rw [xT]; omega);rw [hv];refine Calls.mono (by rw [← xT]; exact hS) ?_
  rintro e w' ⟨rfl, d', n, os, hp, hso, rfl⟩
  have x1 := zmB El.x ok cf (fun x y hx hy J G => hT x y hx hy (by simpa [ltOf] using J) (by simpa [ltOf] using G))
   (fun x y z hx hy hz J G => by
    simp only [leOf, ltOf, wD, jT, Int.not_lt] at J G ⊢;exact kZ _ _ _ hz hy hx G J)
   (fun x y hx hy => by
    simp only [leOf, ltOf, w8, wD, jT, Int.not_lt];exact (hY x y hx hy).symm) (fun e => e.hx) hp hso
  rw [List.toList_toArray, hP] at x1;have j2 : d'.size = l.length := hp.1.trans xT;have v1 : (flatK El.vs s d').size = l.length * s := by simp [j2]
  have v0 : (flatK El.vs s d').size <= cur.size := by rw [v1, T]; exact jS s v9
  have j0 : (sortWorldK El.vs s w b 0 n d' os).ownsRow 0 E s (ρ 2000000) (l.mergeSort (leOf cf)).length (flatK El.vs s d').toList := by
   rw [List.length_mergeSort];refine ⟨by simpa using v1, .inr ⟨b, cap, putCells id 0 (flatK El.vs s d') cur, hv, hX, zoK _ hh, v9, hW, by simp [putCells, T], ?_⟩⟩;rw [← v1]; exact zit cur _ v0
  obtain ⟨s1, s2⟩ := zqc (ρ' := ρ) (l' := l.mergeSort (leOf cf)) Z (fun _ _ => rfl) (by rw [hv]; rfl) (by rw [hv]; rfl) (zkK (n := n) (os := os) (flatK El.vs s d')) (by show w.drawn <= w.drawn + n; omega) j0 (fun _ x _ => he x) (fun i x j c v hi hc Q => by
   rw [← x1, jK] at hi;cases u3 : d'.toList[i]? with
   | none => rw [u3] at hi; simp at hi
   | some e =>
    rw [u3] at hi;have hxe : e.x = x := by simpa using hi
    have V : j < s := by rw [← he x]; exact (j1.1 hc).1
    have hg := ziu (d := d') (i := i) (j := j) (e := e) (by rw [← uS]; exact u3) V;rw [uS, hg] at Q;exact e.hr j c v (by rw [hxe]; exact hc) Q)
  exact ⟨_, ρ, I, O, rfl, s1, .tup [] [] rfl (fun j c v h => by simp at h), s2, fun _ _ => rfl⟩
end Go.Rse
namespace Go.Proofs
open Go.Shelf Go.Proofs.Tryz
def zgq : Go.Shelf.Ren := ⟨fun | 6 => 122 | 15 => 170 | 14 => 169 | 28 => 226 | 29 => 227 | 20 => 218 | 21 => 219 | 22 => 220 | 23 => 221 | 24 => 222 | 25 => 223 | 26 => 224 | 27 => 225 | 46 => 268 | 47 => 269 | 48 => 270 | 49 => 271 | 50 => 272 | 57 => 307 | n => n, fun | 22 => 159 | 24 => 158 | 25 => 161 | 3 => 3 | 39 => 221 | 0 => 0 | 53 => 264 | 55 => 266 | 4 => 4 | 46 => 257 | 45 => 256 | 50 => 261 | 5 => 5 | 9 => 9 | 66 => 300 | 70 => 304 | 76 => 344 | 77 => 191 | n => n, fun | n => n⟩
def zjm : Go.Proofs.SlLaysF0.n6 prog zgq := {
 mixed := by kernel_rfl
 f6 := ⟨f122.name, by decide, func122.trans (congrArg some (by kernel_rfl))⟩
 f14 := ⟨f169.name, by decide, func169.trans (congrArg some (by kernel_rfl))⟩
 f15 := func170.trans (congrArg some (by kernel_rfl))
 f20 := ⟨f218.name, by decide, func218.trans (congrArg some (by kernel_rfl))⟩
 f21 := ⟨f219.name, by decide, func219.trans (congrArg some (by kernel_rfl))⟩
 f22 := ⟨f220.name, by decide, func220.trans (congrArg some (by kernel_rfl))⟩
 f23 := ⟨f221.name, by decide, func221.trans (congrArg some (by kernel_rfl))⟩
 f24 := ⟨f222.name, by decide, func222.trans (congrArg some (by kernel_rfl))⟩
 f25 := ⟨f223.name, by decide, func223.trans (congrArg some (by kernel_rfl))⟩
 f26 := ⟨f224.name, by decide, func224.trans (congrArg some (by kernel_rfl))⟩
 f27 := ⟨f225.name, by decide, func225.trans (congrArg some (by kernel_rfl))⟩
 f28 := func226.trans (congrArg some (by kernel_rfl))
 f29 := func227.trans (congrArg some (by kernel_rfl))
 f46 := ⟨f268.name, by decide, func268.trans (congrArg some (by kernel_rfl))⟩
 f47 := func269.trans (congrArg some (by kernel_rfl))
 f48 := func270.trans (congrArg some (by kernel_rfl))
 f49 := ⟨f271.name, by decide, func271.trans (congrArg some (by kernel_rfl))⟩
 f50 := ⟨f272.name, by decide, func272.trans (congrArg some (by kernel_rfl))⟩
 f57 := ⟨f307.name, by decide, func307.trans (congrArg some (by kernel_rfl))⟩
 t0 := Tryz.underlying0
 a0 := Tryz.isAgg0
 z0 := Tryz.sizeOf0
 v0 := Tryz.zeroValue0
 t3 := Tryz.underlying3
 a3 := Tryz.isAgg3
 z3 := Tryz.sizeOf3
 v3 := Tryz.zeroValue3
 t4 := Tryz.underlying4
 a4 := Tryz.isAgg4
 z4 := Tryz.sizeOf4
 v4 := Tryz.zeroValue4
 t5 := Tryz.underlying5
 a5 := Tryz.isAgg5
 z5 := Tryz.sizeOf5
 v5 := Tryz.zeroValue5
 t9 := Tryz.underlying9
 a9 := Tryz.isAgg9
 z9 := Tryz.sizeOf9
 v9 := Tryz.zeroValue9
 t22 := Tryz.underlying159
 a22 := Tryz.isAgg159
 z22 := Tryz.sizeOf159
 v22 := Tryz.zeroValue159
 t25 := Tryz.underlying161
 a25 := Tryz.isAgg161
 z25 := Tryz.sizeOf161
 v25 := Tryz.zeroValue161
 t39 := Tryz.underlying221
 a39 := Tryz.isAgg221
 z39 := Tryz.sizeOf221
 v39 := Tryz.zeroValue221
 t45 := Tryz.underlying256
 a45 := Tryz.isAgg256
 z45 := Tryz.sizeOf256
 v45 := Tryz.zeroValue256
 t46 := Tryz.underlying257
 a46 := Tryz.isAgg257
 z46 := Tryz.sizeOf257
 v46 := Tryz.zeroValue257
 t50 := Tryz.underlying261
 a50 := Tryz.isAgg261
 z50 := Tryz.sizeOf261
 v50 := Tryz.zeroValue261
 t53 := Tryz.underlying264
 a53 := Tryz.isAgg264
 z53 := Tryz.sizeOf264
 v53 := Tryz.zeroValue264
 t55 := Tryz.underlying266
 a55 := Tryz.isAgg266
 z55 := Tryz.sizeOf266
 v55 := Tryz.zeroValue266
 t66 := Tryz.underlying300
 a66 := Tryz.isAgg300
 z66 := Tryz.sizeOf300
 v66 := Tryz.zeroValue300
 t70 := Tryz.underlying304
 a70 := Tryz.isAgg304
 z70 := Tryz.sizeOf304
 v70 := Tryz.zeroValue304
 t76 := Tryz.underlying344
 a76 := Tryz.isAgg344
 z76 := Tryz.sizeOf344
 v76 := Tryz.zeroValue344
 t77 := Tryz.underlying191
 a77 := Tryz.isAgg191
 z77 := Tryz.sizeOf191
 v77 := Tryz.zeroValue191 }
end Go.Proofs
