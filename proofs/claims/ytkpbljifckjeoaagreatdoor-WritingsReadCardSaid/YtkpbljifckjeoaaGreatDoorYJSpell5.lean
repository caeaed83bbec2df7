/-
  Walks.
-/
import Derived.Test.YtkpbljifckjeoaaGreatDoorYJLaw24a
set_option linter.unusedSimpArgs false
set_option linter.unusedVariables false
namespace Go.Rse
open Go Go.Proofs
attribute [local irreducible] Pur yr yw Ex X Fn Imp LeV LeB FnO It yx
attribute [local irreducible] yq durT mulV wdL
end Go.Rse
namespace Go.Rse
open Go Go.Proofs Go.RowKit
section
attribute [local irreducible] Pur yr yw Ex X Fn Imp LeV LeB FnO It yx
def zro (l L : List Tm) : Bool := (l.all fun x => decide (ckT x = 0) && decide (x ∈ L)) && (L.all fun x => decide (x ∈ l)) && decide (L.Pairwise ltT)
attribute [local irreducible] wdL
end
section
attribute [local irreducible] Pur yr yw Ex X Fn Imp LeV LeB FnO It yx
def zbU (X : List Sp) (s : Sp) (t : Tm) (L : List Tm) (q : Nat) : List Sp := if t ∈ L.take q then X ++ [s] else X
theorem zsv (X : List Sp) (s : Sp) (t : Tm) (L : List Tm) : X = zbU X s t L 0 := by simp [zbU]
theorem znX {X : List Sp} {s : Sp} {t : Tm} {L : List Tm} {q : Nat} {u : Tm} (h : L[q]? = some u) (e : u = t) (hp : L.Pairwise ltT) : zbU X s t L q ++ [s] = zbU X s t L (q + 1) := by
 subst e
 have hn : ¬ u ∈ L.take q := fun hm => by
  obtain ⟨i, hi⟩ := List.mem_iff_getElem?.1 hm;rw [List.getElem?_take] at hi;split at hi
  ·rename_i hiq;have h1 := List.getElem?_eq_some_iff.1 hi;have h2 := List.getElem?_eq_some_iff.1 h;have := List.pairwise_iff_getElem.1 hp i q h1.1 h2.1 hiq;rw [h1.2, h2.2] at this;exact zpd _ this
  ·simp at hi
 unfold zbU;rw [if_neg hn, if_pos (by rw [List.take_add_one, h]; simp)]
theorem zpO {X : List Sp} {s : Sp} {t : Tm} {L : List Tm} {q : Nat} {u : Tm} (h : L[q]? = some u) (e : ¬ u = t) : zbU X s t L q = zbU X s t L (q + 1) := by
 unfold zbU
 have : t ∈ L.take (q + 1) ↔ t ∈ L.take q := by
  rw [List.take_add_one, h];simp only [Option.toList_some, List.mem_append, List.mem_singleton];exact ⟨fun h => h.elim id fun h => absurd h.symm e, .inl⟩
 by_cases h2 : t ∈ L.take q
 ·rw [if_pos h2, if_pos (this.2 h2)]
 ·rw [if_neg h2, if_neg (fun h => h2 (this.1 h))]
theorem znY (X : List Sp) (s : Sp) (t : Tm) (L : List Tm) (q : Nat) : (zbU X s t L q).length <= X.length + 1 := by
 unfold zbU; split <;> simp
theorem znZ {m : Mn} {v : Int} {t : Tm} {i : Nat} {L : List Tm} (hL : ∀ x, x ∈ L ↔ x ∈ wdL m v (1 + (i : Int)).toNat) (X : List Sp) : zbU (X ++ alI m t v (1 + i)) (spOf v (1 + (i : Int))) t L L.length = X ++ alI m t v (1 + (i + 1)) := by
 rw [show (1 + (i : Int)).toNat = 1 + i by omega] at hL;unfold zbU;rw [List.take_length];by_cases h : t ∈ L
 ·rw [if_pos h, List.append_assoc];have := zlm (m := m) (t := t) (v := v) (n := 1 + i) (by omega) ((hL t).1 h) X;rw [List.append_assoc] at this;rw [show ((1 + i : Nat) : Int) = 1 + (i : Int) by omega] at this;exact this
 ·rw [if_neg h];exact zkF (m := m) (t := t) (v := v) (n := 1 + i) (.inr fun h2 => h ((hL t).2 h2)) X
attribute [local irreducible] yq durT mulV wdL allE bthE alO alI mMk gI zbU
end
end Go.Rse
namespace Go.Rse
open Go Go.Proofs
section
attribute [local irreducible] Pur yr yw Ex X Fn Imp LeV LeB FnO It yx
def inA (l : List Tm) (t : Tm) : Nat := l.findIdx fun u => !decide (cmpV u t < 0)
def insT (l : List Tm) (t : Tm) : List Tm := if l[inA l t]? = some t then l else l.take (inA l t) ++ [t] ++ l.drop (inA l t)
theorem zsw (l : List Tm) (t : Tm) : inA l t <= l.length := List.findIdx_le_length
theorem zn0 {l : List Tm} {t : Tm} {k : Nat} (h : ∀ i u, i < k -> l[i]? = some u -> cmpV u t < 0) (hk : k <= l.length) (h2 : k = l.length \/ ∃ u, l[k]? = some u /\ ¬ cmpV u t < 0) : inA l t = k := by
 unfold inA;rcases h2 with rfl | ⟨u, hu, hn⟩
 ·refine List.findIdx_eq_length.2 fun x hx => ?_
  obtain ⟨i, hi⟩ := List.mem_iff_getElem?.1 hx;have := h i x (List.getElem?_eq_some_iff.1 hi).1 hi;simp [this]
 ·have hkl := (List.getElem?_eq_some_iff.1 hu).1;refine (List.findIdx_eq hkl).2 ⟨?_, fun j hj => ?_⟩
  ·rw [(List.getElem?_eq_some_iff.1 hu).2]; simp; omega
  ·have := h j _ hj (lgg (by omega));simp [this]
theorem zn1 (l : List Tm) (t : Tm) : (insT l t).length <= l.length + 1 := by
 have := zsw l t;unfold insT; split <;> simp <;> omega
attribute [local irreducible] cmpV
theorem zbW (v y : Int) : Fn Tryz.prog 119 [iv v, iv y] (spA (spOf v y)) := by
 refine Fn.go Tryz.func119 Tryz.ntmps119 (fun g w d => ?_);apply yg;refine zB ?_;apply yI;iterate 5 refine ya ?_
 refine ExF.at 5 ?_;refine yA ?_;iterate 2 refine ExF.gi ?_
 iterate 2 refine yA ?_
 iterate 2 refine ExF.gi ?_
 iterate 4 refine yA ?_
 iterate 2 refine ExF.gi ?_
 refine ge ?_;refine RetQ.ret (.one (.cellA rfl rfl rfl rfl zrM (LeV.eq ?_)));all_goals (rfl)
theorem zbX (a b : Tm) : Fn Tryz.prog 202 [tmA a, tmA b] (.bool (decide (cmpV a b < 0))) := by
 refine Fn.go Tryz.func202 Tryz.ntmps202 (fun g w d => ?_);refine gq ?_;refine yb (zdk a b) ?_;refine gq ?_;all_goals (first | rfl | (simp_all; done))
theorem zeB (m : Mn) (t : Tm) : Fn Tryz.prog 117 [mnA m, tmA t] (iv (bthE m t)) := by
 refine Fn.go Tryz.func117 Tryz.ntmps117 (fun g w d => ?_);refine gq ?_;refine yb (zD m) ?_;refine gd ?_ ?_<;>intro hc1
 ·refine gq ?_;refine yb (z6 t) ?_;refine gq ?_;all_goals (unfold bthE; rw [if_pos hc1])
 ·refine gq ?_;all_goals (unfold bthE; rw [if_neg hc1])
theorem zam (t : Tm) (n q : Int) (h : -9223372036854775808 <= t.N * n /\ t.N * n <= 9223372036854775807) (h2 : -9223372036854775808 <= t.D * q /\ t.D * q <= 9223372036854775807) : Fn Tryz.prog 166 [tmA t, iv n, iv q] (tmsA [tmkT (t.N * n) (t.D * q)]) := by
 refine Fn.go Tryz.func166 Tryz.ntmps166 (fun g w d => ?_);refine gq ?_;refine yb (zbS (t.N * n) (t.D * q) (by omega) (by omega)) ?_;refine gq ?_;refine yJ tmE [tmkT (t.N * n) (t.D * q)] ?_;refine yu ?_;refine X.ret ?_;refine RetQ.imp (Imp.freeze (k := 22) rfl) ?_;refine gq ?_;all_goals (rfl)
set_option maxHeartbeats 2000000 in
theorem zdz (l : List Tm) (t : Tm) (hl : l.length <= 100000) : Fn Tryz.prog 201 [tmsA l, tmA t] (tmsA (insT l t)) := by
 refine Fn.go Tryz.func201 Tryz.ntmps201 (fun g w d => ?_);refine gq ?_
 refine yS (ι := Nat) (fun k => [(0, tmsA l), (3, .ptr 3 0 0 0), (5, iv (k : Int))]) (fun k => [(3, .box (tmE t) 25)]) (fun (k : Nat) => k <= l.length /\ ∀ i u, i < k -> l[i]? = some u -> cmpV u t < 0) (fun (k : Nat) => l.length - k) 0 (fun k hk => ?_) (hJ := by exact ⟨by omega, fun i u h => absurd h (Nat.not_lt_zero i)⟩)
 obtain ⟨hk1, hk2⟩ := hk
 have hv : k < l.length -> l[k]? = some (l.getD (k : Int).toNat default) := fun h => by
  rw [Int.toNat_natCast, List.getD_eq_getElem?_getD, lgg h]; rfl
 refine gq ?_;refine zf [6,7,8,9,10,11,12,13,14,15,16,17] [0,0,2,7,15,31,31,127,255,31,1023,2047] mo ?_;iterate 5 refine yc ?_
 iterate 5 refine ChM.gi ?_
 refine ChM.cg (zbX (l.getD (k : Int).toNat default) t) ?_;refine yc ?_;refine yE ?_;refine gd ?_ ?_<;>intro hc1
 ·refine gq ?_
  refine yz (k + 1) (hJ := by
   refine ⟨by omega, fun i u hi hu => ?_⟩;rcases Nat.lt_succ_iff_lt_or_eq.1 hi with h | h
   ·exact hk2 i u h hu
   ·subst h; rw [hv (by omega)] at hu; injection hu with hu; subst hu; exact hc1.2)
 ·have hin : inA l t = k := by
   by_cases hkl : k < l.length
   ·exact zn0 hk2 hk1 (.inr ⟨_, hv hkl, by rcases hc1 with h | h; omega; omega⟩)
   ·exact zn0 hk2 hk1 (.inl (by omega))
  refine gq ?_;refine zf [20,21,22,23,24,25,26,27,28,29,30,31] [0,0,2,7,15,31,31,127,255,31,1023,2047] mo ?_;iterate 5 refine yc ?_
  iterate 6 refine ChM.gi ?_
  refine yc ?_;refine yE ?_;refine gd ?_ ?_<;>intro hc2
  ·have hV : l = insT l t := by unfold insT; rw [hin, hv (by omega), if_pos (by rw [hc2.2])]
   refine gq ?_;all_goals (exact congrArg tmsA hV)
  have hV : [] ++ l.take (k : Int).toNat ++ [t] ++ l.drop (k : Int).toNat = insT l t := by
   unfold insT;rw [hin, Int.toNat_natCast, if_neg (fun e => ?_)]; simp;have hkl := (List.getElem?_eq_some_iff.1 e).1;rw [hv hkl] at e; injection e with e;rcases hc2 with h | h; omega; exact h e
  refine gq ?_;refine X.drawQ [⟨1, 34, tmsA l, []⟩, ⟨2, 35, iv (k : Int), []⟩, ⟨3, 36, tmsA (l.take (k : Int).toNat), [2, 1]⟩, ⟨5, 38, tmA t, []⟩, ⟨6, 39, tmsA [t], [5]⟩, ⟨8, 41, tmsA l, []⟩, ⟨9, 42, iv (k : Int), []⟩, ⟨10, 43, tmsA (l.drop (k : Int).toNat), [9, 8]⟩] [(0, []), (4, [2, 1, 3, 0]), (7, [2, 1, 5, 3, 0, 6, 4]), (11, [2, 1, 5, 3, 0, 9, 8, 6, 4, 10, 7]), (12, [10, 9, 8, 7, 6, 5, 4, 3, 2, 1, 0, 11])] (fun j => match j with | 0 => ⟨[(0, tmsA l), (3, .ptr 3 0 0 0), (5, iv (k : Int))], [(3, .box (tmE t) 25)]⟩ | 1 => ⟨[(0, tmsA l), (3, .ptr 3 0 0 0), (5, iv (k : Int)), (33, .own 33)], [(3, .box (tmE t) 25), (33, .row tmE ([]) 25 2)]⟩ | 2 => ⟨[(0, tmsA l), (3, .ptr 3 0 0 0), (5, iv (k : Int)), (37, .own 33)], [(3, .box (tmE t) 25), (33, .row tmE ([] ++ l.take (k : Int).toNat) 25 2)]⟩ | 3 => ⟨[(0, tmsA l), (3, .ptr 3 0 0 0), (5, iv (k : Int)), (40, .own 33)], [(3, .box (tmE t) 25), (33, .row tmE ([] ++ l.take (k : Int).toNat ++ [t]) 25 2)]⟩ | 4 => ⟨[(0, tmsA l), (3, .ptr 3 0 0 0), (5, iv (k : Int)), (44, .own 33)], [(3, .box (tmE t) 25), (33, .row tmE ([] ++ l.take (k : Int).toNat ++ [t] ++ l.drop (k : Int).toNat) 25 2)]⟩ | _ => ⟨[(0, tmsA l), (3, .ptr 3 0 0 0), (5, iv (k : Int)), (4, .own 33)], [(3, .box (tmE t) 25), (33, .row tmE ([] ++ l.take (k : Int).toNat ++ [t] ++ l.drop (k : Int).toNat) 25 2)]⟩) mo (by kernel_rfl) (zbb (ye)) (fun j hj => ?_) (fun j c hc β hβ => ?_) ?_
  ·rcases j with _ | _ | _ | _ | _ | _ | j
   ·iterate 2 refine ⟨.inr ⟨_, rfl, rfl, rfl, rfl, Pur.stepA y9⟩, ?_⟩
    first
     | refine ⟨.inr ⟨_, rfl, rfl, rfl, rfl, Pur.stepA (zc8 rfl rfl rfl sl54 ty25 (by omega) (by omega))⟩, ?_⟩
     | refine ⟨.inr ⟨_, rfl, rfl, rfl, rfl, Pur.stepA (zdP rfl rfl sl54 ty25 (fun _ => rfl) (by omega) (by omega))⟩, ?_⟩
    refine ⟨.inr ⟨_, rfl, rfl, rfl, rfl, Pur.stepA y9⟩, ?_⟩;refine ⟨.inr ⟨_, rfl, rfl, rfl, rfl, zac (enc := tmE) (l := [t]) sl54 ty25 ze25⟩, ?_⟩;iterate 2 refine ⟨.inr ⟨_, rfl, rfl, rfl, rfl, Pur.stepA y9⟩, ?_⟩
    first
     | refine ⟨.inr ⟨_, rfl, rfl, rfl, rfl, Pur.stepA (zI rfl rfl rfl sl54 ty25 (by omega) (by omega))⟩, ?_⟩
     | refine ⟨.inr ⟨_, rfl, rfl, rfl, rfl, Pur.stepA (zaa rfl rfl sl54 ty25 (fun _ => rfl) (by omega) (by omega))⟩, ?_⟩
    exact True.intro
   ·iterate 2 refine ⟨.inr ⟨_, rfl, rfl, rfl, rfl, Pur.stepA y9⟩, ?_⟩
    first
     | refine ⟨.inr ⟨_, rfl, rfl, rfl, rfl, Pur.stepA (zc8 rfl rfl rfl sl54 ty25 (by omega) (by omega))⟩, ?_⟩
     | refine ⟨.inr ⟨_, rfl, rfl, rfl, rfl, Pur.stepA (zdP rfl rfl sl54 ty25 (fun _ => rfl) (by omega) (by omega))⟩, ?_⟩
    refine ⟨.inr ⟨_, rfl, rfl, rfl, rfl, Pur.stepA y9⟩, ?_⟩;refine ⟨.inr ⟨_, rfl, rfl, rfl, rfl, zac (enc := tmE) (l := [t]) sl54 ty25 ze25⟩, ?_⟩;iterate 2 refine ⟨.inr ⟨_, rfl, rfl, rfl, rfl, Pur.stepA y9⟩, ?_⟩
    first
     | refine ⟨.inr ⟨_, rfl, rfl, rfl, rfl, Pur.stepA (zI rfl rfl rfl sl54 ty25 (by omega) (by omega))⟩, ?_⟩
     | refine ⟨.inr ⟨_, rfl, rfl, rfl, rfl, Pur.stepA (zaa rfl rfl sl54 ty25 (fun _ => rfl) (by omega) (by omega))⟩, ?_⟩
    exact True.intro
   ·(iterate 3 refine ⟨.inl rfl, ?_⟩);refine ⟨.inr ⟨_, rfl, rfl, rfl, rfl, Pur.stepA y9⟩, ?_⟩;refine ⟨.inr ⟨_, rfl, rfl, rfl, rfl, zac (enc := tmE) (l := [t]) sl54 ty25 ze25⟩, ?_⟩;iterate 2 refine ⟨.inr ⟨_, rfl, rfl, rfl, rfl, Pur.stepA y9⟩, ?_⟩
    first
     | refine ⟨.inr ⟨_, rfl, rfl, rfl, rfl, Pur.stepA (zI rfl rfl rfl sl54 ty25 (by omega) (by omega))⟩, ?_⟩
     | refine ⟨.inr ⟨_, rfl, rfl, rfl, rfl, Pur.stepA (zaa rfl rfl sl54 ty25 (fun _ => rfl) (by omega) (by omega))⟩, ?_⟩
    exact True.intro
   ·(iterate 5 refine ⟨.inl rfl, ?_⟩);iterate 2 refine ⟨.inr ⟨_, rfl, rfl, rfl, rfl, Pur.stepA y9⟩, ?_⟩
    first
     | refine ⟨.inr ⟨_, rfl, rfl, rfl, rfl, Pur.stepA (zI rfl rfl rfl sl54 ty25 (by omega) (by omega))⟩, ?_⟩
     | refine ⟨.inr ⟨_, rfl, rfl, rfl, rfl, Pur.stepA (zaa rfl rfl sl54 ty25 (fun _ => rfl) (by omega) (by omega))⟩, ?_⟩
    exact True.intro
   ·exact ze
   ·exact ze
   ·exact absurd (show j + 6 <= 5 from hj) (by omega)
  ·rcases j with _ | _ | _ | _ | _ | j
   ·obtain rfl : (0, []) = c := by injection hc
    refine yh rfl (yD (st0 := ⟨[(34, .ifb (β 1) (tmsA l)), (35, .ifb (β 2) (iv (k : Int))), (36, .ifb (β 3) (tmsA (l.take (k : Int).toNat))), (38, .ifb (β 5) (tmA t)), (39, .ifb (β 6) (tmsA [t])), (41, .ifb (β 8) (tmsA l)), (42, .ifb (β 9) (iv (k : Int))), (43, .ifb (β 10) (tmsA (l.drop (k : Int).toNat))), (0, tmsA l), (3, .ptr 3 0 0 0), (5, iv (k : Int))], [(3, .box (tmE t) 25)]⟩) (yy) ?_);refine yw.imp (yo (yF (k := 33) (enc := tmE) (l := ([] : List Tm)) sl54 ty25 ze25 (by decide) rfl rfl rfl rfl (by decide) (by decide) (fun _ => rfl) rfl) rfl rfl) (yy)
   ·obtain rfl : (4, [2, 1, 3, 0]) = c := by injection hc
    refine yh rfl (yD (st0 := ⟨[(34, tmsA l), (35, iv (k : Int)), (36, tmsA (l.take (k : Int).toNat)), (38, .ifb (β 5) (tmA t)), (39, .ifb (β 6) (tmsA [t])), (41, .ifb (β 8) (tmsA l)), (42, .ifb (β 9) (iv (k : Int))), (43, .ifb (β 10) (tmsA (l.drop (k : Int).toNat))), (0, tmsA l), (3, .ptr 3 0 0 0), (5, iv (k : Int)), (33, .own 33)], [(3, .box (tmE t) 25), (33, .row tmE ([]) 25 2)]⟩) (yy) ?_);refine yw.imp (zbq rfl rfl rfl SlK.h TiK.h (by decide) (by decide) (fun _ => rfl) (fun _ => rfl) (by first | omega | (simp; done) | (simp; omega) | (simp_all; omega)) rfl) (yy)
   ·obtain rfl : (7, [2, 1, 5, 3, 0, 6, 4]) = c := by injection hc
    refine yh rfl (yD (st0 := ⟨[(34, tmsA l), (35, iv (k : Int)), (36, tmsA (l.take (k : Int).toNat)), (38, tmA t), (39, tmsA [t]), (41, .ifb (β 8) (tmsA l)), (42, .ifb (β 9) (iv (k : Int))), (43, .ifb (β 10) (tmsA (l.drop (k : Int).toNat))), (0, tmsA l), (3, .ptr 3 0 0 0), (5, iv (k : Int)), (37, .own 33)], [(3, .box (tmE t) 25), (33, .row tmE ([] ++ l.take (k : Int).toNat) 25 2)]⟩) (yy) ?_);refine yw.imp (zbq rfl rfl rfl SlK.h TiK.h (by decide) (by decide) (fun _ => rfl) (fun _ => rfl) (by first | omega | (simp; done) | (simp; omega) | (simp_all; omega)) rfl) (yy)
   ·obtain rfl : (11, [2, 1, 5, 3, 0, 9, 8, 6, 4, 10, 7]) = c := by injection hc
    refine yh rfl (yD (st0 := ⟨[(34, tmsA l), (35, iv (k : Int)), (36, tmsA (l.take (k : Int).toNat)), (38, tmA t), (39, tmsA [t]), (41, tmsA l), (42, iv (k : Int)), (43, tmsA (l.drop (k : Int).toNat)), (0, tmsA l), (3, .ptr 3 0 0 0), (5, iv (k : Int)), (40, .own 33)], [(3, .box (tmE t) 25), (33, .row tmE ([] ++ l.take (k : Int).toNat ++ [t]) 25 2)]⟩) (yy) ?_);refine yw.imp (zbq rfl rfl rfl SlK.h TiK.h (by decide) (by decide) (fun _ => rfl) (fun _ => rfl) (by first | omega | (simp; done) | (simp; omega) | (simp_all; omega)) rfl) (yy)
   ·obtain rfl : (12, [10, 9, 8, 7, 6, 5, 4, 3, 2, 1, 0, 11]) = c := by injection hc
    refine yh rfl (yD (st0 := ⟨[(34, tmsA l), (35, iv (k : Int)), (36, tmsA (l.take (k : Int).toNat)), (38, tmA t), (39, tmsA [t]), (41, tmsA l), (42, iv (k : Int)), (43, tmsA (l.drop (k : Int).toNat)), (0, tmsA l), (3, .ptr 3 0 0 0), (5, iv (k : Int)), (44, .own 33)], [(3, .box (tmE t) 25), (33, .row tmE ([] ++ l.take (k : Int).toNat ++ [t] ++ l.drop (k : Int).toNat) 25 2)]⟩) (yy) ?_);refine yw.imp (yo (Pur.stepA (zcJ rfl)) rfl rfl) (yy)
   ·exact absurd hc (by simp)
  refine X.ret ?_;refine RetQ.imp (Imp.freeze (k := 33) rfl) ?_;refine gq ?_;all_goals (exact congrArg tmsA hV)
end
section
attribute [local irreducible] Pur yr yw Ex X Fn Imp LeV LeB FnO It yx
def rlO (f : Tm -> List Tm) (g : Nat -> Tm) : Nat -> List Tm
 | 0 => []
 | j + 1 => (f (g j)).foldl insT (rlO f g j)
def rlM (m : Mn) (v k : Int) : Int := if m.p k = 3 then (if k = v then 1 else 2) else 0
def rlG (m : Mn) (v k : Int) (t : Tm) (j : Nat) : Bool := decide ((j : Int) <= rlM m v k) && decide (0 < (lsT m k t j).N)
def rlK (m : Mn) (k : Int) (t : Tm) (j : Nat) : Bool := decide (cmpV (yq m (k + 1)) (lsT m k t j) < 0)
def rlN (m : Mn) (v k : Int) (t : Tm) : Nat -> Nat -> Nat
 | 0, j => j
 | f + 1, j => if rlG m v k t j = true then (if rlK m k t j = true then rlN m v k t f (j + 1) else j + 1) else j
def rlL (m : Mn) (v : Int) : Nat -> Int -> Tm -> List Tm
 | 0, k, t => [t]
 | n + 1, k, t => rlO (rlL m v n (k + 1)) (lsT m k t) (rlN m v k t 3 0)
theorem zsx (m : Mn) (v k : Int) : 0 <= rlM m v k /\ rlM m v k <= 2 := by
 unfold rlM; split
 ·split <;> omega
 ·omega
theorem zrp {m : Mn} {v k : Int} {t : Tm} : ∀ (j i f : Nat), i + f = 3 -> i <= j -> (∀ q, q < j -> rlG m v k t q = true /\ rlK m k t q = true) -> rlG m v k t j = false -> j <= 3 -> rlN m v k t f i = j
 | j, i, 0, h, h1, h2, h3, h4 => by unfold rlN; omega
 | j, i, f + 1, h, h1, h2, h3, h4 => by
  unfold rlN;rcases Nat.lt_or_ge i j with hl | hl
  ·rw [if_pos (h2 i hl).1, if_pos (h2 i hl).2];exact zrp j (i + 1) f (by omega) (by omega) h2 h3 h4
  ·have : i = j := by omega
   subst this;rw [if_neg (by rw [h3]; simp)]
theorem zrq {m : Mn} {v k : Int} {t : Tm} : ∀ (j i f : Nat), i + f = 3 -> i <= j -> (∀ q, q < j -> rlG m v k t q = true /\ rlK m k t q = true) -> rlG m v k t j = true -> rlK m k t j = false -> j <= 2 -> rlN m v k t f i = j + 1
 | j, i, 0, h, h1, h2, h3, h4, h5 => by omega
 | j, i, f + 1, h, h1, h2, h3, h4, h5 => by
  unfold rlN;rcases Nat.lt_or_ge i j with hl | hl
  ·rw [if_pos (h2 i hl).1, if_pos (h2 i hl).2];exact zrq j (i + 1) f (by omega) (by omega) h2 h3 h4 h5
  ·have : i = j := by omega
   subst this;rw [if_pos h3, if_neg (by rw [h4]; simp)]
theorem zfE : ∀ (l out : List Tm), (l.foldl insT out).length <= out.length + l.length
 | [], out => by simp
 | t :: r, out => by
  have h1 := zfE r (insT out t);have h2 := zn1 out t;simp only [List.foldl_cons, List.length_cons]; omega
theorem zje {f : Tm -> List Tm} {g : Nat -> Tm} {B : Nat} (h : ∀ t, (f t).length <= B) : ∀ j, (rlO f g j).length <= j * B
 | 0 => by simp [rlO]
 | j + 1 => by
  have h1 := zje (g := g) h j;have h2 := zfE (f (g j)) (rlO f g j);have h3 := h (g j);have h4 : (j + 1) * B = j * B + B := Nat.succ_mul ..;unfold rlO; omega
theorem zn2 (m : Mn) (v k : Int) (t : Tm) : ∀ f j, rlN m v k t f j <= j + f
 | 0, j => Nat.le_refl _
 | f + 1, j => by
  have := zn2 m v k t f (j + 1);unfold rlN; split
  ·split <;> omega
  ·omega
theorem zgt (m : Mn) (v : Int) : ∀ n k t, (rlL m v n k t).length <= 3 ^ n
 | 0, k, t => by simp [rlL]
 | n + 1, k, t => by
  have h1 := zje (g := lsT m k t) (zgt m v n (k + 1)) (rlN m v k t 3 0);have h2 := zn2 m v k t 3 0;have h3 : 3 ^ (n + 1) = 3 * 3 ^ n := by rw [Nat.pow_succ, Nat.mul_comm]
  have h4 : rlN m v k t 3 0 * 3 ^ n <= 3 * 3 ^ n := Nat.mul_le_mul_right _ (by omega);unfold rlL; omega
theorem zmV {l out : List Tm} {i : Nat} {u : Tm} (h : l[i]? = some u) : insT ((l.take i).foldl insT out) u = (l.take (i + 1)).foldl insT out := by
 rw [List.take_add_one, h, List.foldl_append]; rfl
attribute [local irreducible] cmpV subV yq insT rlN rlL
set_option maxHeartbeats 4000000 in
theorem zeC (m : Mn) (hm : ckM m = 0) (v : Int) (h1 : 1 <= v) (n : Nat) (k : Int) (t : Tm) (hn : (5 - k).toNat = n) (hk1 : 1 <= k) (hk8 : k <= 8) : Fn Tryz.prog 167 [mnA m, iv v, iv k, tmA t] (tmsA (rlL m v n k t)) := by
 induction n using Nat.strongRecOn generalizing k t
 rename_i n ih;refine Fn.go Tryz.func167 Tryz.ntmps167 (fun g w d => ?_);refine gd ?_ ?_<;>intro hc1
 ·have hn0 : n = 0 := by omega
  subst hn0;have hV : [t] = rlL m v 0 k t := by unfold rlL; rfl
  refine gq ?_;refine yJ tmE [t] ?_;refine yu ?_;refine X.ret ?_;refine RetQ.imp (Imp.freeze (k := 19) rfl) ?_;refine gq ?_;all_goals (first | exact congrArg tmsA hV | rfl)
 obtain ⟨q, rfl⟩ : ∃ q, n = q + 1 := ⟨n - 1, by omega⟩;have hmb := zsx m v k;apply yp;apply yg;refine yu ?_;refine zdS ⟨[(1, iv v), (2, iv k), (4, .ptr 4 0 0 0), (7, .ptr 7 0 0 0), (9, iv (rlM m v k))], [(4, .box (mnE m) 32), (7, .box (tmE t) 25)]⟩ (fun hJ8 => ?_) ?_
 ·refine gq ?_;refine yb (zq m k) ?_;refine gd ?_ ?_<;>intro hc2
  ·have hmo : (0 : Int) = rlM m v k := by unfold rlM; rw [if_neg hc2]
   apply ym;refine yu ?_;exact X.imp yd hJ8
  ·refine gd ?_ ?_<;>intro hc3
   ·have hmo : (1 : Int) = rlM m v k := by unfold rlM; rw [if_pos (by simpa using hc2), if_pos hc3]
    apply ym;refine yu ?_;exact X.imp yd hJ8
   ·have hmo : (2 : Int) = rlM m v k := by unfold rlM; rw [if_pos (by simpa using hc2), if_neg hc3]
    apply yp;exact X.imp yd hJ8
 refine gq ?_;refine yb (zaA hm (by omega) (by omega) : Fn _ _ [mnA m, iv (k + 1)] _) ?_;iterate 3 refine ya ?_
 refine zB ?_;refine Ex.mo ?_;refine ya ?_;apply yI;refine yu ?_;apply yl;apply yg;refine yu ?_;apply X.block;have hq0 : [] = rlO (rlL m v q (k + 1)) (lsT m k t) 0 := rfl
 refine yS (ι := Nat) (fun j => [(1, iv v), (2, iv k), (4, .ptr 4 0 0 0), (7, .ptr 7 0 0 0), (9, iv (rlM m v k)), (10, .ptr 10 0 0 0), (12, tmsA (rlO (rlL m v q (k + 1)) (lsT m k t) j)), (13, iv (j : Int))]) (fun j => [(4, .box (mnE m) 32), (7, .box (tmE (lsT m k t j)) 25), (10, .box (tmE (yq m (k + 1))) 25)]) (fun (j : Nat) => j <= 3 /\ ∀ q, q < j -> rlG m v k t q = true /\ rlK m k t q = true) (fun (j : Nat) => 3 - j) 0 (fun j hk => ?_) (hJ := by exact ⟨by omega, fun q h => absurd h (Nat.not_lt_zero q)⟩) (h0 := by exact yd)
 obtain ⟨hj3, hJ⟩ := hk;have hol := zje (g := lsT m k t) (zgt m v q (k + 1)) j;apply yl;apply yg;iterate 3 refine ya ?_
 refine ExF.at 3 ?_;refine yA ?_;iterate 3 refine ExF.gi ?_
 refine gf ?_ ?_<;>intro hc4
 ·have hgj : rlG m v k t j = true := by unfold rlG; rw [decide_eq_true hc4.1, decide_eq_true hc4.2]; rfl
  have hj2 : j <= 2 := by omega
  refine gq ?_;refine yb (ih q (by omega) (k + 1) (lsT m k t j) (by omega) (by omega) (by omega)) ?_;refine yu ?_;apply yl;apply yg;refine yu ?_;apply X.block;obtain ⟨D, hD⟩ : ∃ D, D = rlL m v q (k + 1) (lsT m k t j) := ⟨_, rfl⟩;have hDl := zgt m v q (k + 1) (lsT m k t j);have hp4 : 3 ^ q <= 3 ^ 3 := Nat.pow_le_pow_right (by decide) (by omega);have hp5 : 3 ^ 3 = 27 := rfl;have hjb : j * 3 ^ q <= 3 * 3 ^ q := Nat.mul_le_mul_right _ hj3;rw [← hD] at hDl;have hD2 := hD.symm;have hst0 : rlO (rlL m v q (k + 1)) (lsT m k t) j = (D.take 0).foldl insT (rlO (rlL m v q (k + 1)) (lsT m k t) j) := by rw [List.take_zero]; rfl
  refine yS (ι := Nat) (fun i => [(1, iv v), (2, iv k), (4, .ptr 4 0 0 0), (7, .ptr 7 0 0 0), (9, iv (rlM m v k)), (10, .ptr 10 0 0 0), (12, tmsA ((D.take i).foldl insT (rlO (rlL m v q (k + 1)) (lsT m k t) j))), (13, iv (j : Int)), (14, tmsA D), (15, iv (i : Int))]) (fun i => [(4, .box (mnE m) 32), (7, .box (tmE (lsT m k t j)) 25), (10, .box (tmE (yq m (k + 1))) 25)]) (fun (i : Nat) => i <= D.length) (fun (i : Nat) => D.length - i) 0 (fun i hk => ?_) (h0 := by exact yd)
  refine gd ?_ ?_<;>intro hc5
  ·obtain ⟨u, hu⟩ : ∃ u, D[i]? = some u := ⟨_, lgg (by omega)⟩;have hu2 : D[(i : Int).toNat]? = some u := by simpa using hu
   have hst := zmV (out := rlO (rlL m v q (k + 1)) (lsT m k t) j) hu;have hfl := zfE (D.take i) (rlO (rlL m v q (k + 1)) (lsT m k t) j);have htl : (D.take i).length <= D.length := by rw [List.length_take]; omega
   refine gq ?_;refine yb (zdz ((D.take i).foldl insT (rlO (rlL m v q (k + 1)) (lsT m k t) j)) u (by omega)) ?_;refine gq ?_;refine yz (i + 1) (hI := yd)
  ·have hiD : i = D.length := by omega
   subst hiD;have hst : (D.take D.length).foldl insT (rlO (rlL m v q (k + 1)) (lsT m k t) j) = rlO (rlL m v q (k + 1)) (lsT m k t) (j + 1) := by rw [List.take_length, hD]; rfl
   refine gq ?_;refine yb (zbX (yq m (k + 1)) (lsT m k t j)) ?_;refine gd ?_ ?_<;>intro hc6
   ·have hkj : rlK m k t j = false := by unfold rlK; rw [decide_eq_false (by omega)]
    have hfin : rlO (rlL m v q (k + 1)) (lsT m k t) (j + 1) = rlL m v (q + 1) k t := by
     conv => rhs; unfold rlL
     rw [zrq j 0 3 rfl (Nat.zero_le _) hJ hgj hkj hj2]
    refine gq ?_;all_goals (first | exact congrArg tmsA hfin | exact congrArg tmsA (hst.trans hfin))
   have hkj : rlK m k t j = true := by unfold rlK; rw [decide_eq_true (by omega)]
   refine gq ?_;refine yb (zfc (lsT m k t j) (yq m (k + 1))) ?_;refine gq ?_
   refine yz (j + 1) (hJ := by
    refine ⟨by omega, fun q h => ?_⟩;rcases Nat.lt_succ_iff_lt_or_eq.1 h with h | h
    ·exact hJ q h
    ·subst h; exact ⟨hgj, hkj⟩) (hI := yd)
 ·have hgj : rlG m v k t j = false := by
   unfold rlG;rcases hc4 with h | h
   ·rw [decide_eq_false (by omega)]; rfl
   ·rw [decide_eq_false (show ¬ 0 < (lsT m k t j).N by omega)]; simp
  have hfin : rlO (rlL m v q (k + 1)) (lsT m k t) j = rlL m v (q + 1) k t := by
   conv => rhs; unfold rlL
   rw [zrp j 0 3 rfl (Nat.zero_le _) hJ hgj hj3]
  refine gq ?_;all_goals (first | exact congrArg tmsA hfin | exact congrArg tmsA (hst.trans hfin))
end
end Go.Rse
